/- Texts of this seat, joined. -/
import Derived.Test.YtacgopankhpnbaaGreatDoorSAD
set_option maxHeartbeats 8000000
set_option maxRecDepth 100000
set_option linter.unusedVariables false
set_option linter.unusedSimpArgs false
namespace Go.Proofs.YtacgopankhpnbaaGreatDoor
open Go.RowKit
def ExpAll(p:Prs):Prop:=∀(form i:Nat)(w:World),p.At w i->form<=9->Calls Tryz.prog 188 #[.pointer (some ⟨p.pb,0,none⟩),.int .i64 (form:Int)] w
 (Ran p.S w (expAllP p.l form i) fun x j e w'=>oK w.heap.size x e w'/\p.At w' j/\i<=j)
theorem ExpAll.of{p:Prs}(h:∀f,fX p f):ExpAll p:=fun form i w hA hf=>h (p.l.length+1) form i w hA hf (by have:=hA.lt;omega)
def RowV{α:Type}(p:Prs)(k:Nat)(enc:(Nat->Prop)->World->α->List Value->Prop)(w:World)(i:Nat)(xs:List α)(j:Nat)(e:Ending)(w':World):Prop:=
 ∃a n c,e=.returned (.slice a n c)/\aK k enc (bD w.heap.size) w' (.slice a n c) xs/\p.At w' j/\i<=j
theorem mR(p:Prs)(hX:ExpAll p)(w:World)(i:Nat)(s:ByteArray)(h:p.At w i):Calls Tryz.prog 139 #[.pointer (some ⟨p.pb,0,none⟩),.string s] w
  (Ran p.S w (lW p.l i s) fun x j e w'=>oK w.heap.size x e w'/\p.At w' j/\i<j):=by
 have HW:=zh h;have HX:=zh (hX 0 i (w.alloc (.cells bH 177)) (h.later (aA _ _)) VI);have hlen:=h.len;have tZ:=h.blt;have pQ:w.heap.size≠p.pb:=VG;have rF:(w.alloc (.cells bH 177)).heap.size=w.heap.size+1:=VL;have HR:Hid (lW p.l i s=(expAllP p.l 0 i).bnd fun x j=>(lZ p.l j (decide (cB x<=12)) s).bnd fun _ k=>.ok (x,k)):=zh rfl;clear h hX;go_enter Tryz.func139,Tryz.ntmps139;go_wp2_with(first|(go_at_call 137;refine(end_any p w3 j2 _ s HA3.out).mono ?_;rintro e w4 (⟨x4,sI,rfl,pW⟩|⟨⟨⟩,j4,sI,⟨rfl,rR⟩,pW⟩)<;>have vN:=zh (pW.heap hneL zV.out)<;>have HR4:=zh (pW.heap pQ MW.out)<;>obtain⟨⟨d0,d1,d2,d3,d4,d5⟩,h0,h1,h2,h3,h4,h5⟩:=bx6 vN.out<;>obtain⟨⟨r0,r1,r2,r3,r4,r5⟩,g0,g1,g2,g3,g4,g5⟩:=bx6 HR4.out)|(go_at_call 189;refine(depth_any _ x _ op n s1 m _ _ _ (Nat.le_refl _) (by have:=expAllP_depth rA hlen;omega) (aG _ _ _ _ _ _ (bM.later (aA w2 _)) hex)).mono ?_;rintro e w3 ⟨rfl,rD⟩;have HA3:=zh ((qL.later (aA w2 _)).later rD);have zV:=zh (aF rD (heap_alloc_new w2 (.cells #[.int .i64 op,.int .i64 n,.string s1,.string m,.slice a1 n1 c1,.slice a2 n2 c2] 177)));have MW:=zh (aF (aB (aA w2 (.cells #[.int .i64 op,.int .i64 n,.string s1,.string m,.slice a1 n1 c1,.slice a2 n2 c2] 177)) rD) (pU.heap pQ (heap_alloc_new w (.cells bH 177))));have qH:=pU.size;have hneL:w2.heap.size≠p.pb:=VG;have HD:Hid (decide ((cB x:Int)<=12)=decide (cB x<=12)):=zh WC)|(go_at_call 188;refine HX.out.mono ?_;rintro e w2 (⟨x2,rA,rfl,pU⟩|⟨x,j2,rA,⟨⟨op,n,s1,m,a1,n1,c1,a2,n2,c2,rfl,hex⟩,qL,yN⟩,pU⟩)))
 ·exact⟨rfl,Ran.bad' (HR.out.trans (PR.bnd_bad rA)) ((Off.of_below (aA _ _)).trans pU)⟩
 ·rw[HD.out] at sI;exact⟨rfl,Ran.bad' (HR.out.trans ((PR.bnd_ok rA).trans (PR.bnd_bad sI))) ((Off.of_below (aA _ _)).trans (pU.trans ((Off.of_below (aB (aA w2 _) rD)).trans pW)))⟩
 ·rw[HD.out] at sI;have hj4:=endP_ok sI;have hE:=gA HW.out ((Off.of_below (aA _ _)).trans (pU.trans ((Off.of_below (aB (aA w2 _) rD)).trans pW))) rR (aG.off (aG _ _ _ _ _ _ (bM.later (aB (aA w2 _) rD)) hex) pW (fun b hb hn=>by have hb:b=p.pb:=hb;have hn:(w.alloc (.cells bH 177)).heap.size<=b:=hn;omega)) (fun b hb=>by have hb:(w.alloc (.cells bH 177)).heap.size<=b:=hb;omega);unfold gB at hE;refine bodyPost_ret (v:=.agg #[.int .i64 op,.int .i64 n,.string s1,.string m,.slice a1 n1 c1,.slice a2 n2 c2]) (by simp[results,Tryz.results139,go_sem,r0,r1,r2,r3,r4,r5]) rfl ?_;exact Ran.good (HR.out.trans ((PR.bnd_ok rA).trans (PR.bnd_ok sI))) ⟨⟨op,n,s1,m,a1,n1,c1,a2,n2,c2,rfl,hE.1⟩,hE.2.1,VG⟩ hE.2.2
structure GrL {α:Type} (k:Nat) (T:TypeId) (enc:(Nat->Prop)->World->α->List Value->Prop) (p:Prs) (W:World) (out:List α) (css:List (List Value)) (v:Value) (q:Nat) (wr:World):Prop where
 off:Off p.S W wr
 acc:Gro k T enc W.heap.size out css v wr
 at_:p.At wr q
section
variable {α:Type} {k:Nat} {T:TypeId} {enc:(Nat->Prop)->World->α->List Value->Prop} {p:Prs} {W w5 w9 qJ:World} {out:List α} {css:List (List Value)} {v:Value} {q j i0:Nat} {x:α} {cs:List Value}
theorem GrL.next(he:eD enc)(hW:p.At W i0)(h:GrL k T enc p W out css v q w5)(ho:Off p.S w5 w9)(ha:p.At w9 j):GrL k T enc p W out css v j w9:=
 ⟨h.off.trans ho,h.acc.stays he (cZ.of_off ho fun b hb=>.inl X5),ha⟩
theorem GrL.fresh_enc(he:eD enc)(h:GrL k T enc p W out css v q w5)(hex:enc (bD w5.heap.size) w9 x cs):enc (lC W.heap.size v) w9 x cs:=
 he.wide hex fun b hb _=>⟨by have hb:w5.heap.size<=b:=hb;have:=h.acc.big;omega,fun e=>by have hb:w5.heap.size<=b:=hb;have:=h.acc.lt b e;omega⟩
theorem GrL.step{g cap n1:Nat}(he:eD enc)(hW:p.At W i0)(h5:GrL k T enc p W out css v q w5)(o9:Off p.S w5 w9)(xQ:p.At w9 j)(hx:enc (lC W.heap.size v) w9 x cs)(hl:cs.length=k)
  (pP:qJ.ownsRow W.heap.size T k (.slice (some ⟨g,0,none⟩) n1 cap) n1 (css.flatten++cs)) (hn:n1=out.length+1) (pO:w9.grownBy qJ v.ownBlock) (qA:v.ownBlock=some g\/g=w9.heap.size):
  GrL k T enc p W (out++[x]) (css++[cs]) (.slice (some ⟨g,0,none⟩) n1 cap) j qJ/\Off (fun b=>W.heap.size<=b) w9 qJ:=by
 subst hn;have pT:=h5.acc.lt;have qK:=h5.acc.big;have hA9:=h5.acc.stays he (cZ.of_off o9 fun b hb=>.inl X5);have xP:Off (fun b=>W.heap.size<=b) w9 qJ:=⟨pO.os,pO.tape,pO.output,pO.size,fun b hb hn=>pO.block b hb (fun e=>hn (pT b e.symm).1)⟩;exact⟨⟨Off.fresh (((h5.off.trans o9).or _).trans (xP.mono fun b hb=>.inr hb)) (Nat.le_refl _),hA9.added he hx hl pP pO qA,hW.above xQ xP⟩,xP⟩
end
end Go.Proofs.YtacgopankhpnbaaGreatDoor
namespace Go.Proofs.YtacgopankhpnbaaGreatDoor
open Go.RowKit
theorem wholes_any(p:Prs)(hX:ExpAll p)(n:Nat)(hn:n<=1000)(w:World)(i:Nat)(s:ByteArray)(h:p.At w i):Calls Tryz.prog 143 #[.pointer (some ⟨p.pb,0,none⟩),.int .i64 (n:Int),.string s] w
  (Ran p.S w (iD p.l n i s) (RowV p 6 bV w i)):=by
 obtain⟨i0,tF,rS,qI,qH⟩:=info_parts xpInfo;have HW:=zh h;have hlen:=h.len
 cases n with
 |zero=>
  have HR:Hid (iD p.l 0 i s=(dB p.l i s).bnd fun _ j=>.ok ([],j)):=zh rfl;clear h hX;go_enter Tryz.func143,Tryz.ntmps143;go_wp2_with(go_at_call 131;refine(cR p w i s HW.out).mono ?_;rintro e w1 (⟨x,hx,rfl,pV⟩|⟨⟨⟩,j,hx,⟨rfl,qD⟩,pV⟩))
  ·exact VD
  ·have hj:=(cH hx).1;go_ret;exact Ran.good (HR.out.trans (PR.bnd_ok hx)) ⟨none,0,0,rfl,aK.nil _ _ _ _,qD,VG⟩ pV
 |succ n=>
  have HX:=zh hX;have HR:Hid (iD p.l (n+1) i s=jA p.l s n [] i):=zh rfl;have vP:((n+1:Nat):Int)=(n:Int)+1:=VG;rw[vP];have hn2:(n:Int)+1<=1000:=VG;have hn3:((n:Int)+1==0)=false:=VQ;clear h hX vP;go_enter Tryz.func143,Tryz.ntmps143;go_wp2_with fail;have R3:Hid (GrL 6 177 bV p w [] [] (.slice none 0 0) i w):=zh ⟨Off.refl _ _,Gro.first _ _ _ _,HW.out⟩;go_loopw [7,15] (fun v c wr=>∃(k:Nat)(a:Option Addr)(cc q:Nat)(out:List Xp)(css:List (List Value)),k<=n/\c=.int .i64 (k:Int)/\v=.slice a out.length cc/\Hid (GrL 6 177 bV p w out css v q wr)/\Hid (iD p.l (n+1) i s=jA p.l s (n-k) out q)/\Hid (i<=q/\out.length=k)) (fun _ c _=>n-(intOf c).toNat)
  case atStart=>exact⟨0,none,0,i,[],[],VG,rfl,rfl,R3,HR,zh ⟨Nat.le_refl _,rfl⟩⟩
  case round=>
   obtain⟨k,a,cc,q,out,css,hk,rfl,rfl,HL,pZ,HB⟩:=hrel;(rename World=>wr);have yV:=HB.out.1;(have DR:out.length<=1000:=by have:=HB.out.2;omega);by_cases pT:k<n
   ·have uG:Hid (iD p.l (n+1) i s=(lW p.l q bJ).bnd fun x j=>jA p.l s (n-(k+1)) (out++[x]) j):=zh (by rw[pZ.out,show n-k=(n-(k+1))+1 by omega];rfl);go_wp2_with(first|(at_builtin;have HL9:=HL.out.next aG HW.out (qC.trans (Off.of_below (aA w7 (.cells #[.int .i64 op,.int .i64 n1,.string s1,.string m,.slice a1 m1 c1,.slice a2 m2 c2] 177)))) (rX.later (aA _ _));have qN:=HL9.acc;have rN:=qN.big;refine wpList_append_lies _ rfl _ _ 127 rfl w.heap.size 177 i0 (.agg #[.int .i64 0,.int .i64 0,.string ByteArray.empty,.string ByteArray.empty,.slice none 0 0,.slice none 0 0]) 6 96 Tryz.underlying127 tF rS qI qH rfl VG (.slice a out.length cc) out.length css.flatten WF qN.own ⟨w7.heap.size,0,none⟩ 1 1 [.int .i64 op,.int .i64 n1,.string s1,.string m,.slice a1 m1 c1,.slice a2 m2 c2] WF rfl (World.news_of_block (cs:=#[.int .i64 op,.int .i64 n1,.string s1,.string m,.slice a1 m1 c1,.slice a2 m2 c2]) (t:=177) (fr:=(0,0)) (heap_alloc_new w7 _)) VX VG VR VG rN (w7.heap.size+1) VL ?_)|(go_at_call 139;refine(mR p HX.out wr q bJ HL.out.at_).mono ?_;rintro e w7 (⟨x7,rJ,rfl,qC⟩|⟨x,j,rJ,⟨⟨op,n1,s1,m,a1,m1,c1,a2,m2,c2,rfl,hex⟩,rX,hqj⟩,qC⟩)))
    ·exact⟨rfl,Ran.bad' (uG.out.trans (PR.bnd_bad rJ)) (HL.out.off.trans qC)⟩
    ·intro g cap qJ pP pO qA _;have sQ:=zh (HL.out.step aG HW.out (qC.trans (Off.of_below (aA w7 (.cells #[.int .i64 op,.int .i64 n1,.string s1,.string m,.slice a1 m1 c1,.slice a2 m2 c2] 177)))) (rX.later (aA _ _)) (HL.out.fresh_enc aG (aG _ _ _ _ _ _ (bM.later (aA w7 (.cells #[.int .i64 op,.int .i64 n1,.string s1,.string m,.slice a1 m1 c1,.slice a2 m2 c2] 177))) hex)) rfl pP rfl pO XT).1;have vU:=zh (uG.out.trans (PR.bnd_ok rJ));have HJ:Hid (i<=j/\(out++[x]).length=k+1):=zh ⟨VG,by simp[HB.out.2]⟩;clear pP pO qA hex rX qC rJ HL pZ uG;go_wp2_with fail;go_roundw;(case rel=>exact⟨k+1,some ⟨g,0,none⟩,cap,j,out++[x],_,VG,VT,VL,sQ,vU,HJ⟩);case measure=>simp[intOf];omega
   ·have zM:k=n:=VG;have uG:Hid (iD p.l (n+1) i s=(lW p.l q s).bnd fun x j=>.ok (out++[x],j)):=zh (by rw[pZ.out,zM,Nat.sub_self];rfl);subst zM;go_wp2_with(first|(at_builtin;have HL9:=HL.out.next aG HW.out (qC.trans (Off.of_below (aA w7 (.cells #[.int .i64 op,.int .i64 n1,.string s1,.string m,.slice a1 m1 c1,.slice a2 m2 c2] 177)))) (rX.later (aA _ _));have qN:=HL9.acc;have rN:=qN.big;refine wpList_append_lies _ rfl _ _ 127 rfl w.heap.size 177 i0 (.agg #[.int .i64 0,.int .i64 0,.string ByteArray.empty,.string ByteArray.empty,.slice none 0 0,.slice none 0 0]) 6 96 Tryz.underlying127 tF rS qI qH rfl VG (.slice a out.length cc) out.length css.flatten WF qN.own ⟨w7.heap.size,0,none⟩ 1 1 [.int .i64 op,.int .i64 n1,.string s1,.string m,.slice a1 m1 c1,.slice a2 m2 c2] WF rfl (World.news_of_block (cs:=#[.int .i64 op,.int .i64 n1,.string s1,.string m,.slice a1 m1 c1,.slice a2 m2 c2]) (t:=177) (fr:=(0,0)) (heap_alloc_new w7 _)) VX VG VR VG rN (w7.heap.size+1) VL ?_)|(go_at_call 139;refine(mR p HX.out wr q s HL.out.at_).mono ?_;rintro e w7 (⟨x7,rJ,rfl,qC⟩|⟨x,j,rJ,⟨⟨op,n1,s1,m,a1,m1,c1,a2,m2,c2,rfl,hex⟩,rX,hqj⟩,qC⟩)))
    ·exact⟨rfl,Ran.bad' (uG.out.trans (PR.bnd_bad rJ)) (HL.out.off.trans qC)⟩
    ·intro g cap qJ pP pO qA _;have sQ:=zh (HL.out.step aG HW.out (qC.trans (Off.of_below (aA w7 (.cells #[.int .i64 op,.int .i64 n1,.string s1,.string m,.slice a1 m1 c1,.slice a2 m2 c2] 177)))) (rX.later (aA _ _)) (HL.out.fresh_enc aG (aG _ _ _ _ _ _ (bM.later (aA w7 (.cells #[.int .i64 op,.int .i64 n1,.string s1,.string m,.slice a1 m1 c1,.slice a2 m2 c2] 177))) hex)) rfl pP rfl pO XT).1;have hR:=uG.out.trans (PR.bnd_ok rJ);clear pP pO qA hex rX qC rJ;go_wp2_with fail;go_ret;exact Ran.good hR ⟨_,_,_,rfl,by simpa using sQ.out.acc.row aG,sQ.out.at_,VG⟩ sQ.out.off
theorem TX{p:Prop}(h:p:=by
 refine congrArg dY (funext fun z=>?_);simp only[List.any_append,List.any_cons,List.any_nil,Bool.or_false];rw[Bool.or_comm];by_cases h:a=z
 ·subst h;rfl
 ·have h2:¬z=a:=fun e=>h e.symm
  simp only[decide_eq_false h,decide_eq_false h2]):p:=h
theorem Gro.cells{α:Type}{k:Nat}{T:TypeId}{enc:(Nat->Prop)->World->α->List Value->Prop}{B:Nat}{l:List α}{css:List (List Value)}{v:Value}{w:World}(h:Gro k T enc B l css v w){b:Nat}(hb:v.ownBlock=some b):∃cs t fr,w.heap[b]? =some (.cells cs t fr):=by
 rcases h.own.2 with⟨rfl,-⟩|⟨g,cap,cur,rfl,-,DW,-⟩
 ·cases hb
 ·have e:g=b:=XQ;subst e;exact⟨_,_,_,DW⟩
theorem Gro.nemap{α:Type}{k:Nat}{T:TypeId}{enc:(Nat->Prop)->World->α->List Value->Prop}{B:Nat}{l:List α}{css:List (List Value)}{v:Value}{w:World}(h:Gro k T enc B l css v w){km:Nat}(hm:cQ w km):v.ownBlock≠some km:=fun e=>by
 obtain⟨cs,t,fr,h1⟩:=h.cells e;obtain⟨es,c,h2⟩:=hm;rw[h1] at h2;cases h2
section
variable {α:Type} {k:Nat} {T:TypeId} {enc:(Nat->Prop)->World->α->List Value->Prop} {p:Prs} {W w5 w9 qJ:World} {out:List α} {css:List (List Value)} {v:Value} {q j i0 km:Nat}
theorem GrL.fresh(he:eD enc)(hW:p.At W i0)(h:GrL k T enc p W out css v q w5)(hm:cQ w5 km)(hk:W.heap.size<=km)(ho:Off (p.S2 km) w5 w9)(ha:p.At w9 j):GrL k T enc p W out css v j w9:=
 ⟨Off.fresh ((h.off.or _).trans (ho.mono fun b hb=>hb.elim (fun e=>.inl e) (fun e=>.inr VG))) (Nat.le_refl _),
  h.acc.stays he (cZ.of_off ho fun b hb=>hb.elim (fun e=>.inl (by have:=hW.blt;omega)) (fun e=>.inr (by rw[e];exact hm))),ha⟩
end
theorem GrL.field{p:Prs}{W w6 w7 qJ:World}{g cap n1 i0 j2 q:Nat}{fs:List Fld}{css:List (List Value)}{v:Value}{a:ByteArray}{t:Ty}{k:Int}{sa:Option Addr}{sn sc:Nat}(hW:p.At W i0)(h6:GrL 3 184 fR p W fs css v q w6)
  (qC:Off p.S (w6.alloc (.cells #[.string a,.int .i64 0,.slice none 0 0] 184)) w7) (rX:p.At w7 j2) (tI:iN (bD (w6.alloc (.cells #[.string a,.int .i64 0,.slice none 0 0] 184)).heap.size) w7 t [.int .i64 k,.slice sa sn sc]) (hs:a.size<=8000)
  (pP:qJ.ownsRow W.heap.size 184 3 (.slice (some ⟨g,0,none⟩) n1 cap) n1 (css.flatten++[.string a,.int .i64 k,.slice sa sn sc])) (hn:n1=fs.length+1) (pO:(((w7.setCell ⟨w6.heap.size,1,none⟩ (.int .i64 k)).setCell ⟨w6.heap.size,2,none⟩ (.slice sa sn sc)).alloc (.cells #[.string a,.int .i64 k,.slice sa sn sc] 184)).grownBy qJ v.ownBlock) (qA:v.ownBlock=some g\/g=w7.heap.size+1):
  GrL 3 184 fR p W (fs++[(a,t)]) (css++[[.string a,.int .i64 k,.slice sa sn sc]]) (.slice (some ⟨g,0,none⟩) n1 cap) j2 qJ/\iN (bD (w6.heap.size+1)) qJ t [.int .i64 k,.slice sa sn sc]/\
  qJ.heap[w6.heap.size]? =some (.cells #[.string a,.int .i64 k,.slice sa sn sc] 184)/\Off (fun b=>b=w6.heap.size\/v.ownBlock=some b) w7 qJ:=by
 have qK:=h6.acc.big;have tZ:=hW.blt;have pT:=h6.acc.lt;have qX:(w6.alloc (.cells #[.string a,.int .i64 0,.slice none 0 0] 184)).heap.size=w6.heap.size+1:=VL;have o7:Off p.S w6 w7:=(Off.of_below (aA w6 (.cells #[.string a,.int .i64 0,.slice none 0 0] 184))).trans qC;have GK:w6.heap.size+1<=w7.heap.size:=by have:=qC.size;omega
 have o8:Off (fun b=>b=w6.heap.size) w7 ((w7.setCell ⟨w6.heap.size,1,none⟩ (.int .i64 k)).setCell ⟨w6.heap.size,2,none⟩ (.slice sa sn sc)):=(Off.setCell (S:=fun b=>b=w6.heap.size) w7 rfl).trans (Off.setCell (S:=fun b=>b=w6.heap.size) _ rfl);have o9:Off (fun b=>b=w6.heap.size) w7 (((w7.setCell ⟨w6.heap.size,1,none⟩ (.int .i64 k)).setCell ⟨w6.heap.size,2,none⟩ (.slice sa sn sc)).alloc (.cells #[.string a,.int .i64 k,.slice sa sn sc] 184)):=o8.trans (Off.of_below (aA _ _));have O9:Off p.S w6 (((w7.setCell ⟨w6.heap.size,1,none⟩ (.int .i64 k)).setCell ⟨w6.heap.size,2,none⟩ (.slice sa sn sc)).alloc (.cells #[.string a,.int .i64 k,.slice sa sn sc] 184)):=Off.fresh ((o7.or w6.heap.size).trans (o9.mono fun b hb=>.inr VG)) (Nat.le_refl _);have xQ:=hW.above rX (o9.mono (S':=fun b=>W.heap.size<=b) fun b hb=>VG)
 have hx:fR (lC W.heap.size v) (((w7.setCell ⟨w6.heap.size,1,none⟩ (.int .i64 k)).setCell ⟨w6.heap.size,2,none⟩ (.slice sa sn sc)).alloc (.cells #[.string a,.int .i64 k,.slice sa sn sc] 184)) (a,t) [.string a,.int .i64 k,.slice sa sn sc]:=by
  exact TR
 have zZ:(((w7.setCell ⟨w6.heap.size,1,none⟩ (.int .i64 k)).setCell ⟨w6.heap.size,2,none⟩ (.slice sa sn sc)).alloc (.cells #[.string a,.int .i64 k,.slice sa sn sc] 184)).heap.size=w7.heap.size+1:=VL;have hT:=h6.step aV hW O9 xQ hx rfl pP hn pO Y3;have EY:w7.heap[w6.heap.size]? =some (.cells #[.string a,.int .i64 0,.slice none 0 0] 184):=qC.heap (fun e=>by have e:w6.heap.size=p.pb:=e;omega) (heap_alloc_new w6 (.cells #[.string a,.int .i64 0,.slice none 0 0] 184))
 have hf8:(((w7.setCell ⟨w6.heap.size,1,none⟩ (.int .i64 k)).setCell ⟨w6.heap.size,2,none⟩ (.slice sa sn sc)).alloc (.cells #[.string a,.int .i64 k,.slice sa sn sc] 184)).heap[w6.heap.size]? =some (.cells #[.string a,.int .i64 k,.slice sa sn sc] 184):=by
  refine aF (aA _ _) ?_;rw[aO (aO EY _) _];rfl
 have xP:Off (fun b=>v.ownBlock=some b) (((w7.setCell ⟨w6.heap.size,1,none⟩ (.int .i64 k)).setCell ⟨w6.heap.size,2,none⟩ (.slice sa sn sc)).alloc (.cells #[.string a,.int .i64 k,.slice sa sn sc] 184)) qJ:=⟨pO.os,pO.tape,pO.output,pO.size,fun b hb hn=>pO.block b hb (fun e=>hn e.symm)⟩;refine⟨hT.1,?_,?_,(o9.mono fun b hb=>.inl hb).trans (xP.mono fun b hb=>.inr hb)⟩
 ·rw[qX] at tI;exact eS.off tI ((o9.mono (S':=fun b=>b<=w6.heap.size) fun b hb=>VG).trans (xP.mono fun b hb=>by have:=(pT b hb).2;omega)) (fun b hb hn=>by have hn:w6.heap.size+1<=b:=hn;omega)
 ·exact xP.heap (fun e=>by have:=(pT _ e).2;omega) hf8
section
variable {l:List Tok} {F q most:Nat} {fs:List Fld}
theorem oA(hq:cY l q=false):dW l most (F+1) fs q=.error ((aH l q).pos,11):=by
 rw[dW,if_neg X0];unfold gZ;rw[hq];rfl
theorem fieldsFrom_full(hq:cY l q=true)(hm:¬fs.length<most):dW l most (F+1) fs q=.error ((aH l q).pos,6):=by
 rw[dW,if_pos hq];unfold gO;rw[if_neg hm];rfl
theorem jZ(hq:cY l q=true)(hm:fs.length<most):dW l most (F+1) fs q=
  (gZ l q (fun s=>fs.any fun x=>decide (x.1=s))).bnd fun s j=>(kI l j).bnd fun t j2=>(moreP l j2 t kM).bnd fun q j3=>if q then .ok (fs++[(s,t)],j3) else dW l most F (fs++[(s,t)]) j3:=by
 rw[dW,if_pos hq];unfold gO;rw[if_pos hm];rfl
theorem any_push(fs:List Fld)(a:ByteArray)(t:Ty):(dY fun z=>decide (z=a)||fs.any fun x=>decide (x.1=z))=dY fun s=>(fs++[(a,t)]).any fun x=>decide (x.1=s):=by
 exact TX
theorem freshP_noname{aI:ByteArray->Bool}(hq:cY l q=false):gZ l q aI=.error ((aH l q).pos,11):=by unfold gZ;rw[hq];rfl
end
theorem off_S2{p:Prs}{W w5 w9:World}{km:Nat}(h:Off p.S W w5)(ho:Off (p.S2 km) w5 w9)(hk:W.heap.size<=km):Off p.S W w9:=
 Off.fresh ((h.or _).trans (ho.mono fun b hb=>hb.elim (fun e=>.inl e) (fun e=>.inr VG))) (Nat.le_refl _)
end Go.Proofs.YtacgopankhpnbaaGreatDoor
namespace Go.Proofs.YtacgopankhpnbaaGreatDoor
open Go.RowKit
def oC(N:Nat->Prop)(w:World)(f:Fnc)(cs:List Value):Prop:=∃vp k vf op n s m vn va,cs=[.string f.name,.bool f.pub,vp,.int .i64 k,vf,.int .i64 f.effects,.int .i64 op,.int .i64 n,.string s,.string m,vn,va]/\f.name.size<=8000/\
 aK 3 fR N w vp f.params/\iN N w f.result [.int .i64 k,vf]/\bV N w f.body [.int .i64 op,.int .i64 n,.string s,.string m,vn,va]
theorem cD:eD oC:=fun _ _ _ _ f cs hm h=>by
 obtain⟨vp,k,vf,op,n,s,m,vn,va,h1,h2,h3,h4,h5⟩:=h;exact⟨vp,k,vf,op,n,s,m,vn,va,h1,h2,h3.moves aV hm VI,eS _ _ _ _ _ _ hm h4,aG _ _ _ _ _ _ hm h5⟩
def dK(S:Nat->Prop)(E:World->Prop):Prop:=∀w w',Off S w w'->E w->E w'
theorem dK.and{S:Nat->Prop}{E F:World->Prop}(h:dK S E)(k:dK S F):dK S fun w=>E w/\F w:=fun _ _ ho hE=>⟨h _ _ ho hE.1,k _ _ ho hE.2⟩
theorem dK.true{S:Nat->Prop}:dK S fun _=>True:=fun _ _ _ _=>trivial
theorem dK.row{α:Type}{k:Nat}{enc:(Nat->Prop)->World->α->List Value->Prop}(he:eD enc)(hk:0<k){S N:Nat->Prop}(hS:∀b,S b->¬N b){v:Value}{l:List α}:dK S fun w=>aK k enc N w v l:=
 fun _ _ ho h=>h.moves he (fun b hb _=>⟨hb,fun _ _ hv=>ho.cell (fun hs=>hS b hs hb) hv⟩) hk
theorem dK.enc{α:Type}{enc:(Nat->Prop)->World->α->List Value->Prop}(he:eD enc){S N:Nat->Prop}(hS:∀b,S b->¬N b){x:α}{cs:List Value}:dK S fun w=>enc N w x cs:=fun _ _ ho h=>he.off h ho hS
structure Mk (T:TypeId) (zero:Array Value) (p:Prs) (O S:Nat->Prop) (W:World) (b5:Nat) (cells:Array Value) (E:World->Prop) (q:Nat) (wr:World):Prop where
 off:Off O W wr
 res:wr.heap[W.heap.size]? =some (.cells zero T)
 loc:wr.heap[b5]? =some (.cells cells T)
 at_:p.At wr q
 enc:E wr
 st:dK (fun b=>S b\/b=b5) E
 hb5:W.heap.size<b5
 sO:∀b,S b->O b\/W.heap.size<b
 s5:¬S b5
 sR:¬S W.heap.size
 sP:S p.pb
section
variable {T:TypeId} {zero cells cells':Array Value} {p:Prs} {O S S':Nat->Prop} {W wr w':World} {b5 q j i0:Nat} {E F:World->Prop}
theorem Mk.next(h:Mk T zero p O S W b5 cells E q wr)(ho:Off S wr w')(ha:p.At w' j):Mk T zero p O S W b5 cells E j w':=
 ⟨Off.fresh ((h.off.or _).trans (ho.mono fun b hb=>(h.sO b hb).elim .inl fun e=>.inr (Nat.le_of_lt e))) (Nat.le_refl _),ho.heap h.sR h.res,ho.heap h.s5 h.loc,ha,h.st _ _ (ho.mono fun b hb=>.inl hb) h.enc,h.st,h.hb5,h.sO,h.s5,h.sR,h.sP⟩
theorem Mk.nextP(h:Mk T zero p O S W b5 cells E q wr)(ho:Off p.S wr w')(ha:p.At w' j):Mk T zero p O S W b5 cells E j w':=h.next (ho.mono fun b hb=>by have hb:b=p.pb:=hb;rw[hb];exact h.sP) ha
theorem Mk.below(h:Mk T zero p O S W b5 cells E q wr)(hb:Below wr.heap.size wr w'):Mk T zero p O S W b5 cells E q w':=h.next (Off.of_below hb) (h.at_.later hb)
theorem Mk.put(h:Mk T zero p O S W b5 cells E q wr)(hW:p.At W i0)(ho:Off (fun b=>b=b5) wr w')(hl:w'.heap[b5]? =some (.cells cells' T)):Mk T zero p O S W b5 cells' E q w':=by
 have h1:=h.hb5;exact⟨Off.fresh ((h.off.or _).trans (ho.mono fun b hb=>.inr (by have hb:b=b5:=hb;omega))) (Nat.le_refl _),ho.heap VG h.res,hl,hW.above h.at_ (ho.mono fun b hb=>by have hb:b=b5:=hb;omega),h.st _ _ (ho.mono fun b hb=>.inr hb) h.enc,h.st,h1,h.sO,h.s5,h.sR,h.sP⟩
theorem Mk.add(h:Mk T zero p O S W b5 cells E q wr)(hF:F wr)(hs:dK (fun b=>S b\/b=b5) F):Mk T zero p O S W b5 cells (fun w=>E w/\F w) q wr:=
 ⟨h.off,h.res,h.loc,h.at_,⟨h.enc,hF⟩,h.st.and hs,h.hb5,h.sO,h.s5,h.sR,h.sP⟩
theorem Mk.shrink(h:Mk T zero p O S W b5 cells E q wr)(hS:∀b,S' b->S b)(hp:S' p.pb):Mk T zero p O S' W b5 cells E q wr:=
 ⟨h.off,h.res,h.loc,h.at_,h.enc,fun w w' ho hE=>h.st w w' (ho.mono fun b hb=>hb.elim (fun e=>.inl (hS b e)) .inr) hE,h.hb5,fun b hb=>h.sO b (hS b hb),fun e=>h.s5 (hS _ e),fun e=>h.sR (hS _ e),hp⟩
theorem Mk.lt(h:Mk T zero p O S W b5 cells E q wr):b5<wr.heap.size:=(Array.getElem?_eq_some_iff.1 h.loc).1
end
theorem kQ{w:World}{b:Nat}{x0 x1 x2 x3 x4 x5 x6 x7 x8 x9 x10 x11:Value}{t:TypeId}(h:w.heap[b]? =some (.cells #[x0,x1,x2,x3,x4,x5,x6,x7,x8,x9,x10,x11] t)):
  (w.cell? ⟨b,0,none⟩=some x0/\w.cell? ⟨b,1,none⟩=some x1/\w.cell? ⟨b,2,none⟩=some x2/\w.cell? ⟨b,3,none⟩=some x3/\w.cell? ⟨b,4,none⟩=some x4/\w.cell? ⟨b,5,none⟩=some x5/\w.cell? ⟨b,6,none⟩=some x6/\w.cell? ⟨b,7,none⟩=some x7/\w.cell? ⟨b,8,none⟩=some x8/\w.cell? ⟨b,9,none⟩=some x9/\w.cell? ⟨b,10,none⟩=some x10/\w.cell? ⟨b,11,none⟩=some x11)/\
  (w.frozen? ⟨b,0,none⟩=false/\w.frozen? ⟨b,1,none⟩=false/\w.frozen? ⟨b,2,none⟩=false/\w.frozen? ⟨b,3,none⟩=false/\w.frozen? ⟨b,4,none⟩=false/\w.frozen? ⟨b,5,none⟩=false/\w.frozen? ⟨b,6,none⟩=false/\w.frozen? ⟨b,7,none⟩=false/\w.frozen? ⟨b,8,none⟩=false/\w.frozen? ⟨b,9,none⟩=false/\w.frozen? ⟨b,10,none⟩=false/\w.frozen? ⟨b,11,none⟩=false):=
 ⟨⟨(bx h 0 rfl).1,(bx h 1 rfl).1,(bx h 2 rfl).1,(bx h 3 rfl).1,(bx h 4 rfl).1,(bx h 5 rfl).1,(bx h 6 rfl).1,(bx h 7 rfl).1,(bx h 8 rfl).1,(bx h 9 rfl).1,(bx h 10 rfl).1,(bx h 11 rfl).1⟩,(bx h 0 (u:=x0) rfl).2,(bx h 1 (u:=x1) rfl).2,(bx h 2 (u:=x2) rfl).2,(bx h 3 (u:=x3) rfl).2,(bx h 4 (u:=x4) rfl).2,(bx h 5 (u:=x5) rfl).2,(bx h 6 (u:=x6) rfl).2,(bx h 7 (u:=x7) rfl).2,(bx h 8 (u:=x8) rfl).2,(bx h 9 (u:=x9) rfl).2,(bx h 10 (u:=x10) rfl).2,(bx h 11 (u:=x11) rfl).2⟩
abbrev kB:Array Value:=#[.string ⟨#[]⟩,.bool false,.slice none 0 0,.int .i64 0,.slice none 0 0,.int .i64 0,.int .i64 0,.int .i64 0,.string ⟨#[]⟩,.string ⟨#[]⟩,.slice none 0 0,.slice none 0 0]
theorem stbl_S{p:Prs}{b5:Nat}{N:Nat->Prop}(h:∀b,N b->b≠p.pb/\b≠b5):∀b,(p.S b\/b=b5)->¬N b:=fun b hb hn=>hb.elim (fun e=>(h b hn).1 e) (fun e=>(h b hn).2 e)
def set12(w:World)(b:Nat)(x0 x1 x2 x3 x4 x5 x6 x7 x8 x9 x10 x11:Value):World:=
 (((((((((((w.setCell ⟨b,0,none⟩ x0).setCell ⟨b,1,none⟩ x1).setCell ⟨b,2,none⟩ x2).setCell ⟨b,3,none⟩ x3).setCell ⟨b,4,none⟩ x4).setCell ⟨b,5,none⟩ x5).setCell ⟨b,6,none⟩ x6).setCell ⟨b,7,none⟩ x7).setCell ⟨b,8,none⟩ x8).setCell ⟨b,9,none⟩ x9).setCell ⟨b,10,none⟩ x10).setCell ⟨b,11,none⟩ x11
theorem Off.one{w w':World}{b o:Nat}{v:Value}(h:Off (fun k=>k=b) w w'):Off (fun k=>k=b) w (w'.setCell ⟨b,o,none⟩ v):=h.trans (Off.setCell (S:=fun k=>k=b) _ rfl)
theorem set12_off(w:World)(b:Nat)(x0 x1 x2 x3 x4 x5 x6 x7 x8 x9 x10 x11:Value):Off (fun k=>k=b) w (set12 w b x0 x1 x2 x3 x4 x5 x6 x7 x8 x9 x10 x11):=by
 unfold set12;exact(Off.refl _ _).one.one.one.one.one.one.one.one.one.one.one.one
theorem dK.cells{S:Nat->Prop}{g n:Nat}{f:Nat->Value}(hS:¬S g):dK S fun W=>∀j,j<n->W.cell? ⟨g,0+j,none⟩=some (f j):=fun _ _ ho hw j hj=>ho.cell hS (hw j hj)
theorem dK.map{S:Nat->Prop}{km n:Nat}{m:ByteArray->Option Bool}(hS:¬S km):dK S fun w=>aW eI dD w km n m:=fun _ _ ho h=>h.of_block (ho.block km h.lt hS)
theorem Mk.done{T:TypeId}{zero cells:Array Value}{p:Prs}{O S:Nat->Prop}{W wr w':World}{b5 q i0:Nat}{E:World->Prop}(h:Mk T zero p O S W b5 cells E q wr)(hW:p.At W i0)(ho:Off (fun b=>b=W.heap.size) wr w')(hE:dK (fun b=>b=W.heap.size) E):E w'/\p.At w' q/\Off O W w':=
 ⟨hE _ _ ho h.enc,hW.above h.at_ (ho.mono fun b hb=>by have hb:b=W.heap.size:=hb;omega),Off.fresh ((h.off.or _).trans (ho.mono fun b hb=>.inr (Nat.le_of_eq (Eq.symm hb)))) (Nat.le_refl _)⟩
end Go.Proofs.YtacgopankhpnbaaGreatDoor
namespace Go.Proofs.YtacgopankhpnbaaGreatDoor
open Go.RowKit
theorem fields_any(p:Prs)(most:Nat)(hmost:most<=8)(w:World)(i:Nat)(h:p.At w i):Calls Tryz.prog 142 #[.pointer (some ⟨p.pb,0,none⟩),.int .i64 (most:Int)] w
  (Ran p.S w (jY p.l most i) (RowV p 3 fR w i)):=by
 obtain⟨i0,tF,rS,qI,qH⟩:=info_parts fldInfo;have HW:=zh h;have vZ:=@run_makeMap Tryz.prog;have hlen:=h.len;have hg11:=h.glob.big;have OL:=zh (cR p w i bZ h);have HR:Hid (jY p.l most i=(dB p.l i bZ).bnd fun _ j=>if isP p.l j kM then .ok ([],j+1) else dW p.l most (p.l.length+1) [] j):=zh rfl;clear h;go_enter Tryz.func142,Tryz.ntmps142;go_wp2_with(first|(go_at_call 141;refine(mN p w1 j kM qD).mono ?_;rintro e w2 ⟨rfl,qL,pU⟩)|(go_at_call 131;refine OL.out.mono ?_;rintro e w1 (⟨x,hx,rfl,pV⟩|⟨⟨⟩,j,hx,⟨rfl,qD⟩,pV⟩)))
 ·exact VD
 ·exact UF
 ·rename_i hq;have hj:=(cH hx).1;rw[if_neg X0] at qL;have EF:=zh (HR.out.trans ((PR.bnd_ok hx).trans (if_neg X0)));have qI:=pV.size;have O3:=pU.size;have R3:Hid (GrL 3 184 fR p w [] [] (.slice none 0 0) j (w2.alloc (.map #[] 0))):=zh ⟨(pV.trans pU).trans (Off.of_below (aA _ _)),Gro.first_at _ _ _ VZ,qL.later (aA _ _)⟩;have HM0:Hid (aW eI dD (w2.alloc (.map #[] 0)) w2.heap.size 0 (dY fun s=>([]:List Fld).any fun x=>decide (x.1=s))):=zh ((aW.made w2).ext fun _=>rfl);have PW:11<=w2.heap.size:=VG;have hkw:w.heap.size<=w2.heap.size:=VG;have HJ0:=zh hj;clear vZ pV pU qD qL hx hq OL HR qI O3 hj;generalize w2.heap.size=km at *;go_loopw [5] (fun v wr=>∃(a:Option Addr)(c q F:Nat)(fs:List Fld)(css:List (List Value)),v=.slice a fs.length c/\Hid (GrL 3 184 fR p w fs css v q wr)/\Hid (aW eI dD wr km fs.length (dY fun s=>fs.any fun x=>decide (x.1=s)))/\Hid (jY p.l most i=dW p.l most (F+1) fs q)/\Hid (p.l.length<=F+q/\i<=q/\fs.length<=most)) (fun _ wr=>p.l.length-posOf wr p.pb)
  case atStart=>exact⟨none,0,j,p.l.length,[],[],rfl,R3,HM0,EF,zh ⟨VG,by have:=HJ0.out;omega,Nat.zero_le _⟩⟩
  case round=>
   obtain⟨a,c,q,F,fs,css,rfl,HL,HM,pZ,HB⟩:=hrel;(rename World=>wr);have yV:=HB.out.1;have DR:=HB.out.2.1;(have PK:fs.length<=8:=by have:=HB.out.2.2;omega);have FE:=HL.out.at_.lt
   cases uL:cY p.l q with
   |false=>
    as_aux_lemma=>
     go_wp2_with(first|(go_at_call 135;refine(mV p w5 q km fs.length _ tS.out.at_ HM5.out PW VG).mono ?_;rintro e w6 (⟨x,hx,rfl,qE⟩|⟨s,j6,hx,⟨rfl,tK,NN,LG⟩,qE⟩))|(go_at_call 185;refine(gY p wr q HL.out.at_).mono ?_;rintro e w5 ⟨rfl,hb5⟩;rw[uL];have tS:=zh (HL.out.next aV HW.out (Off.of_below hb5) (HL.out.at_.later hb5));have HM5:=zh (HM.out.later hb5)))
     ·exact⟨rfl,Ran.bad' (by have e:=(freshP_noname uL).symm.trans hx;cases e;exact pZ.out.trans (oA uL)) (off_S2 tS.out.off qE hkw)⟩
     ·rw[freshP_noname uL] at hx;cases hx
   |true=>
    as_aux_lemma=>
     go_wp2_with(first|(at_builtin;have O9:Off p.S w6 (((w7.setCell ⟨w6.heap.size,1,none⟩ (.int .i64 k)).setCell ⟨w6.heap.size,2,none⟩ (.slice sa sn sc)).alloc (.cells #[.string s,.int .i64 k,.slice sa sn sc] 184)):=Off.fresh (((Off.of_below (S:=p.S) (aA w6 (.cells #[.string s,.int .i64 0,.slice none 0 0] 184))).trans qC).or w6.heap.size |>.trans (((Off.setCell (S:=fun b=>p.S b\/w6.heap.size<=b) w7 (.inr (Nat.le_refl _))).trans (Off.setCell (S:=fun b=>p.S b\/w6.heap.size<=b) _ (.inr (Nat.le_refl _)))).trans (Off.of_below (aA _ _)))) (Nat.le_refl _);have A9:=zC.out.acc.stays aV (cZ.of_off O9 fun b hb=>.inl WO);have rN:=A9.big;have qN:=A9.own;refine wpList_append_lies _ rfl _ _ 126 rfl w.heap.size 184 i0 (.agg #[.string ByteArray.empty,.int .i64 0,.slice none 0 0]) 3 48 Tryz.underlying126 tF rS qI qH rfl VG (.slice a fs.length c) fs.length css.flatten WF (by simpa using qN) ⟨w7.heap.size,0,none⟩ 1 1 [.string s,.int .i64 k,.slice sa sn sc] WF rfl (World.news_of_block (cs:=#[.string s,.int .i64 k,.slice sa sn sc]) (t:=184) (fr:=(0,0)) (by simpa using heap_alloc_new ((w7.setCell ⟨w6.heap.size,1,none⟩ (.int .i64 k)).setCell ⟨w6.heap.size,2,none⟩ (.slice sa sn sc)) (.cells #[.string s,.int .i64 k,.slice sa sn sc] 184))) VX VG VR VG (by simpa using rN) (w7.heap.size+1) VL ?_)|(go_at_call 136;refine(typed_any p (w6.alloc (.cells #[.string s,.int .i64 0,.slice none 0 0] 184)) j6 (tK.later (aA _ _))).mono ?_;rintro e w7 (⟨x2,rA,rfl,qC⟩|⟨t,j2,rA,⟨k,sa,sn,sc,rfl,tI,rX,LQ⟩,qC⟩)<;>have EY:=zh (qC.heap (fun e=>XO) (heap_alloc_new w6 (.cells #[.string s,.int .i64 0,.slice none 0 0] 184)))<;>obtain⟨d0,d1,d2,e0,e1,e2⟩:=bxT3 EY.out)|(go_at_call 135;refine(mV p w5 q km fs.length _ tS.out.at_ HM5.out PW VG).mono ?_;rintro e w6 (⟨x,hx,rfl,qE⟩|⟨s,j6,hx,⟨rfl,tK,NN,LG⟩,qE⟩)<;>first|(have zC:=zh (tS.out.fresh aV HW.out (cQ.of HM5.out) hkw qE tK))|skip)|(go_at_call 144;refine(eY p w5 q _ _ tS.out.at_).mono ?_;rintro e w5' (⟨DX,rfl,rfl⟩|⟨DX,rfl,L1⟩))|(go_at_call 185;refine(gY p wr q HL.out.at_).mono ?_;rintro e w5 ⟨rfl,hb5⟩;rw[uL];have tS:=zh (HL.out.next aV HW.out (Off.of_below hb5) (HL.out.at_.later hb5));have HM5:=zh (HM.out.later hb5)))
     ·(have LR:fs.length<most:=by simp at DX;omega);exact⟨rfl,Ran.bad' (pZ.out.trans ((jZ uL LR).trans (PR.bnd_bad hx))) (off_S2 tS.out.off qE hkw)⟩
     ·(have LR:fs.length<most:=by simp at DX;omega);exact⟨rfl,Ran.bad' (pZ.out.trans ((jZ uL LR).trans ((PR.bnd_ok hx).trans (PR.bnd_bad rA)))) (zC.out.off.trans ((Off.of_below (aA _ _)).trans qC))⟩
     ·(have LR:fs.length<most:=by simp at DX;omega);intro g' cap' qJ pP pO qA _;obtain⟨AK,N3,hf10,xP⟩:=zC.out.field HW.out qC rX tI LG pP rfl pO qA;obtain⟨q0,q1,q2,r0,r1,r2⟩:=bxT3 hf10;have sQ:=zh AK;have hm7:=map_off (tK.later (aA _ _)) (NN.later (aA w6 (.cells #[.string s,.int .i64 0,.slice none 0 0] 184))) qC
      have HM10:=zh ((hm7.of_block (xP.block km hm7.lt (by
       rintro(e|e)
       ·have:=NN.lt;omega
       ·exact zC.out.acc.nemap (cQ.of NN) e))).ext fun z=>congrFun (any_push fs s t) z)
      have hj6:=pG hx;have uG:=zh (pZ.out.trans ((jZ uL LR).trans ((PR.bnd_ok hx).trans (PR.bnd_ok rA))));have HMr:=zh (more_any p qJ j2 _ t k _ kM AK.at_ N3 (by have:=lH rA;omega));have HJ:Hid (i<=j2):=zh VG;clear pP pO qA AK N3 hf10 xP hm7 tI rX qC EY O9 A9 rN qN d0 d1 d2 e0 e1 e2 hx rA tS HM5 zC NN tK qE;go_wp2_with(go_at_call 187;refine HMr.out.mono ?_;rintro e qS (⟨x3,sW,rfl,qF⟩|⟨bb,j3,sW,⟨rfl,rI⟩,qF⟩))
      ·exact⟨rfl,Ran.bad' (uG.out.trans (PR.bnd_bad sW)) (sQ.out.off.trans qF)⟩
      ·rename_i uM;subst uM;have hR:=uG.out.trans ((PR.bnd_ok sW).trans (if_pos rfl));have PY:=pA sW;have vW:=zh (sQ.out.next aV HW.out qF rI);go_ret;exact Ran.good hR ⟨_,_,_,rfl,by simpa using vW.out.acc.row aV,rI,by have:=HJ.out;omega⟩ vW.out.off
      ·rename_i uM;subst uM;have hR:=uG.out.trans ((PR.bnd_ok sW).trans (if_neg VL));have PY:=pA sW;have vW:=zh (sQ.out.next aV HW.out qF rI);have AY:=zh (map_off sQ.out.at_ HM10.out qF);have NO:=rI.lt;have zQ:=HJ.out;obtain⟨F',sU⟩:∃F',F=F'+1:=⟨F-1,VG⟩;have HR':=zh hR;have HLm:=zh LR;clear hR LR rI qF sW;go_roundw
       case rel=>
        subst sU;exact⟨some ⟨g',0,none⟩,cap',j3,F',fs++[(s,t)],_,VL,vW,by simpa using AY,HR',zh ⟨VG,VG,by have:=HLm.out;simp;omega⟩⟩
       case measure=>
        rw[vW.out.at_.pos,HL.out.at_.pos];omega
     ·(have LR:¬fs.length<most:=by simp at DX;omega);exact⟨rfl,Ran.bad (pZ.out.trans (fieldsFrom_full uL LR)) (tS.out.off.trans (Off.of_below L1))⟩
end Go.Proofs.YtacgopankhpnbaaGreatDoor
