/- Texts of this seat, joined. -/
import Derived.Test.YtiionicikdnnpaaGreatDoorPT
import Derived.Test.YtiionicikdnnpaaGreatDoorZr
set_option maxHeartbeats 2000000
set_option maxRecDepth 100000
set_option linter.unusedVariables false
set_option linter.unusedSimpArgs false
set_option linter.constructorNameAsVariable false
namespace Go.Proofs.YtiionicikdnnpaaGreatDoor
open Go.RowKit
theorem oR(p:Prs)(w:World)(i a b:Nat)(h:p.At w i):
  Calls Tryz.prog 113 #[.pointer (some ⟨p.pb,0,none⟩),.int .i64 (a:Int),.int .i64 (b:Int)] w (Ran p.S w (gX p.l i a b) fun _ j e w'=>e=.returned (.tuple #[])/\p.At w' j):=by
 have HA:=zh h;have HR:Hid (gX p.l i a b=if a<b then .ok ((),i) else .error ((aM p.l i).pos,6)):=zh rfl;clear h;by_cases pS:(a:Int)<(b:Int)
 ·have yF:decide ((a:Int)<(b:Int))=true:=decide_eq_true pS;go_enter Tryz.func113,Tryz.ntmps113;go_wp2_with(go_at_call 49;refine(fL p _ i _ _ HA.out).mono ?_;rintro e w2 (⟨he,rfl,rfl⟩|⟨he,rfl,pM⟩)<;>first|(cases he;done)|skip);go_end0;exact Ran.good (by rw[HR.out,if_pos VS]) ⟨rfl,HA.out⟩ (Off.refl _ _)
 have yF:decide ((a:Int)<(b:Int))=false:=decide_eq_false pS;go_enter Tryz.func113,Tryz.ntmps113;go_wp2_with(go_at_call 49;refine(fL p _ i _ _ HA.out).mono ?_;rintro e w2 (⟨he,rfl,rfl⟩|⟨he,rfl,pM⟩)<;>first|(cases he;done)|skip);exact⟨rfl,Ran.bad (by rw[HR.out,if_neg VS]) (Ba pM)⟩
theorem run_gtr_str(t:TypeId)(a b:bA)(w:World):(binOp .gtr t (.string a) (.string b)).run Tryz.prog w=.ok (.bool !(Op.bytesLess a.toList b.toList||a.toList==b.toList)) w:=by
 simp[binOp,Op.stringOp]
theorem mS(p:Prs)(w:World)(i:Nat)(than:bA)(any:Bool)(h:p.At w i):
  Calls Tryz.prog 183 #[.pointer (some ⟨p.pb,0,none⟩),.string than,.bool any] w (Ran p.S w (fM p.l i than any) fun a j e w'=>e=.returned (.string a)/\p.At w' j/\a.size<=8000):=by
 have HA:=zh h;have HI:=zh (hM p w i h);have HN:=zh (fun W(hW:p.At W i)=>cJ p W i hW);have HM:=zh (fun W(hW:p.At W i)=>fH p W i hW);have F1:=tokF1;have hG:=run_gtr_str
 cases hq:dC p.l i with
 |false=>
  have HW:Hid (fM p.l i than any=.error ((aM p.l i).pos,11)):=zh (by unfold fM;rw[hq];rfl);rw[hq] at HI;clear h hq;go_enter Tryz.func183,Tryz.ntmps183;exact TD
 |true=>
  have C8:Hid (fR p.l i=.ok ((aM p.l i).text,i+1)):=zh ZF;have HW:Hid (fM p.l i than any=if any&&decide ((aM p.l i).text=than) then .error ((aM p.l i).pos,5) else if any&& !gtB (aM p.l i).text than then .error ((aM p.l i).pos,12) else .ok ((aM p.l i).text,i+1)):=zh (by unfold fM;rw[hq];rfl);rw[hq] at HI;clear h hq;generalize ht:aM p.l i=t at HN C8 HW;have CK:=zh ht;clear ht
  cases any with
  |false=>
   go_enter Tryz.func183,Tryz.ntmps183;go_wp2_with(first|(go_at_call 182;refine HI.out.mono ?_;rintro e w1 ⟨rfl,pN⟩;have qV:=zh (HA.out.later pN))|(go_at_call 49;refine(lH p _ _).mono ?_;rintro e w2 ⟨rfl,rfl⟩)|(go_at_call 111;refine(HM.out _ qV.out).mono ?_;rintro e w3 (⟨x,hx,rfl,ho⟩|⟨a,j,hx,⟨rfl,sV,tT⟩,ho⟩)))
   ·rw[C8.out] at hx;cases hx
   rw[C8.out] at hx;cases hx;go_ret;exact Ran.good (by rw[HW.out];rfl) ⟨rfl,sV,tT⟩ ((Ba pN).trans ho)
  |true=>
   go_enter Tryz.func183,Tryz.ntmps183;go_wp2_with(first|(go_at_call 182;refine HI.out.mono ?_;rintro e w1 ⟨rfl,pN⟩;have qV:=zh (HA.out.later pN))|(go_at_call 50;refine(HN.out w2 rE.out).mono ?_;rintro e w3 ⟨rfl,pR⟩;have sV:=zh (rE.out.later pR))|(go_at_call 50;refine(HN.out w1 qV.out).mono ?_;rintro e w2 ⟨rfl,pM⟩;have rE:=zh (qV.out.later pM))|(go_at_call 111;refine(HM.out w3 sV.out).mono ?_;rintro e w4 (⟨x,hx,rfl,ho⟩|⟨a,j,hx,⟨rfl,sQ,tT⟩,ho⟩))|(go_at_call 49;refine(fL p w3 i _ _ sV.out).mono ?_;rintro e w5 (⟨PU,rfl,rfl⟩|⟨PU,rfl,hb5⟩))|(go_at_call 49;refine(fL p w2 i _ _ rE.out).mono ?_;rintro e w5 (⟨rL,rfl,rfl⟩|⟨rL,rfl,hb5⟩))|(go_at_call 49;refine(fL p w1 i _ _ qV.out).mono ?_;rintro e w5 (⟨qF,rfl,rfl⟩|⟨qF,rfl,hb5⟩)<;>first|(cases qF;done)|skip))
   ·rw[C8.out] at hx;cases hx
   ·rw[C8.out] at hx;cases hx;(have e2:(t.text.toList==than.toList)=false:=by simpa using rL);(have e3:gtB t.text than=true:=by unfold gtB;rw[e2];simpa using PU);go_wp2_with fail;go_ret;exact Ran.good (by rw[HW.out,e3,<-eE,e2];rfl) ⟨rfl,sQ,tT⟩ ((Ba (aA pN (aA pM pR))).trans ho)
   ·(have e2:(t.text.toList==than.toList)=false:=by simpa using rL);(have e3:gtB t.text than=false:=by unfold gtB;rw[e2];simpa using PU);exact⟨rfl,Ran.bad (by rw[CK.out,HW.out,e3,<-eE,e2];rfl) (Ba (aA pN (aA pM (aA pR hb5))))⟩
   (have e2:(t.text.toList==than.toList)=true:=by simpa using rL);exact⟨rfl,Ran.bad (by rw[CK.out,HW.out,<-eE,e2];rfl) (Ba (aA pN (aA pM hb5)))⟩
def eK(known:bA->Bool)(x:bA):Option Bool:=if known x then some true else none
theorem setOf_getD(known:bA->Bool)(x:bA):(eK known x).getD false=known x:=by unfold eK;cases known x<;>rfl
theorem setOf_put(known:bA->Bool)(a:bA):(fun z=>if z=a then some true else eK known z)=eK (fun z=>decide (z=a)||known z):=by
 funext z;unfold eK;by_cases h:z=a<;>simp[h]
abbrev Prs.S2(p:Prs)(km:Nat):Nat->Prop:=fun k=>k=p.pb\/k=km
theorem Off.mono{S S':Nat->Prop}{w w':World}(h:Off S w w')(hS:∀k,S k->S' k):Off S' w w':=⟨h.os,h.tape,h.output,h.size,fun k hk hn=>h.block k hk (fun hs=>hn (hS k hs))⟩
theorem off_map{w w':World}{km:Nat}{S:Nat->Prop}(hS:S km)(hg:w.grownBy w' (some km)):Off S w w':=Off.of_only (only_grown hg) hS
section
variable {p:Prs} {w w':World} {i km n:Nat} {known:bA->Bool}
theorem Prs.At.nemap(h:p.At w i)(hm:gD w km):km≠p.pb/\km≠p.b:=by
 have h0:=h.lt;exact⟨fun e=>hm.ne h.box0 e.symm,fun e=>hm.ne (h.toks i _ h.tok).1.1 e.symm⟩
theorem Prs.At.grown(h:p.At w i)(hm:gD w km)(hk:11<=km)(hg:w.grownBy w' (some km)):p.At w' i:=by
 have hn:=h.nemap hm;exact h.off (S:=fun k=>k=km) (off_map rfl hg) (fun e=>hn.1 e.symm) (fun e=>hn.2 e.symm) (fun k GV e=>VS)
theorem map_off{P:Program}{kt et:TypeId}{κ ν:Type}{K:KeyC P kt κ}{V:ValC P et ν}{m:κ->Option ν}(h:p.At w i)(hm:bQ K V w km n m)(ho:Off p.S w w'):bQ K V w' km n m:=
 hm.of_block (ho.block km hm.lt (h.nemap (gD.of hm)).1)
end
theorem mU(p:Prs)(w:World)(i km n:Nat)(known:bA->Bool)(h:p.At w i)(hm:bQ jC fG w km n (eK known))(hk:11<=km)(hn:n<1000000):
  Calls Tryz.prog 114 #[.pointer (some ⟨p.pb,0,none⟩),.map (some km)] w (Ran (p.S2 km) w (gH p.l i known) fun a j e w'=>e=.returned (.string a)/\p.At w' j/\bQ jC fG w' km (n+1) (eK fun z=>decide (z=a)||known z)/\a.size<=8000):=by
 have HA:=zh h;have Q3:=zh hm;have HI:=zh (hM p w i h);have HN:=zh (fun W(hW:p.At W i)=>cJ p W i hW);have HM:=zh (fun W(hW:p.At W i)=>fH p W i hW);have tT:=(h.toks i _ h.tok).2;have F1:=tokF1;have hS:∀k,p.S k->p.S2 km k:=fun k h=>.inl h
 cases hq:dC p.l i with
 |false=>
  have HW:Hid (gH p.l i known=.error ((aM p.l i).pos,11)):=zh (by unfold gH;rw[hq];rfl);rw[hq] at HI;clear h hq hm tT;go_enter Tryz.func114,Tryz.ntmps114;exact TD
 |true=>
  have C8:Hid (fR p.l i=.ok ((aM p.l i).text,i+1)):=zh ZF;have HW:Hid (gH p.l i known=if known (aM p.l i).text then .error ((aM p.l i).pos,5) else .ok ((aM p.l i).text,i+1)):=zh (by unfold gH;rw[hq];unfold gK;rfl);rw[hq] at HI;clear h hq hm;generalize ht:aM p.l i=t at HN C8 HW tT;have CK:=zh ht;clear ht;have s1:t.text.size<=140737488355328:=VS;have HL:=zh (setOf_getD known t.text);have HP:=zh (setOf_put known t.text);generalize NT:known t.text=q at HL HW;clear NT;go_enter Tryz.func114,Tryz.ntmps114;go_wp2_with(first|(go_at_call 182;refine HI.out.mono ?_;rintro e w1 ⟨rfl,pN⟩;have qV:=zh (HA.out.later pN);have AN:=zh (Q3.out.later pN))|(go_at_call 50;refine(HN.out w2 rE.out).mono ?_;rintro e w3 ⟨rfl,pR⟩;have sV:=zh (rE.out.later pR);have hm3:=zh (zL.out.later pR))|(go_at_call 50;refine(HN.out w1 qV.out).mono ?_;rintro e w2 ⟨rfl,pM⟩;have rE:=zh (qV.out.later pM);have zL:=zh (AN.out.later pM))|(go_at_call 111;refine(HM.out w4 sQ.out).mono ?_;rintro e w5 (⟨x,hx,rfl,ho⟩|⟨a,j,hx,⟨rfl,tG,hsz5⟩,ho⟩))|(go_at_call 49;refine(fL p w2 i _ _ rE.out).mono ?_;rintro e w5 (⟨rL,rfl,rfl⟩|⟨rL,rfl,hb5⟩))|(go_at_call 49;refine(fL p w1 i _ _ qV.out).mono ?_;rintro e w5 (⟨qF,rfl,rfl⟩|⟨qF,rfl,hb5⟩)<;>first|(cases qF;done)|skip)|(at_lookup;refine cH zL.out s1 HL.out rfl rfl rfl rfl ?_)|(at_mapUpdate;refine lI hm3.out VS s1 rfl rfl rfl rfl rfl ?_;intro w4 hm4 hg4;have sQ:=zh (sV.out.grown (gD.of hm3.out) hk hg4);have hg4':=zh hg4;have hm4':=zh (hm4.ext (fun z=>congrFun HP.out z));clear hm4 hg4))
  ·rw[C8.out] at hx;cases hx
  ·rw[C8.out] at hx;cases hx;go_ret;(have hq:q=false:=by cases q<;>simp_all);exact Ran.good (by rw[HW.out,hq];rfl) ⟨rfl,tG,map_off sQ.out hm4'.out ho,hsz5⟩ ((Ba (aA pN (aA pM pR))).trans ((off_map (.inr rfl) hg4'.out).trans (ho.mono hS)))
  have hq:q=true:=by cases q<;>simp_all
  exact⟨rfl,Ran.bad (by rw[CK.out,HW.out,hq];rfl) (Ba (aA pN (aA pM hb5)))⟩
end Go.Proofs.YtiionicikdnnpaaGreatDoor
namespace Go.Proofs.YtiionicikdnnpaaGreatDoor
open Go.RowKit
theorem SX{p:Prop}(h:p:=by
 go_enter Tryz.func184,Tryz.ntmps184;go_wp2_with(first|(go_at_call 117;refine(HL.out _ (aC _ _)).mono ?_;rintro e w1 ⟨rfl,pN⟩;have DY:=zh (aA (aC _ _) pN);have qV:=zh (HA.out.later DY.out))|(go_at_call 112;refine(HI.out w1 qV.out).mono ?_;rintro e w2 ⟨rfl,pM⟩;have rE:=zh (qV.out.later pM))|(go_at_call 116;refine(HE.out w2 _ _ rE.out).mono ?_;rintro e w3 (⟨x,hx,rfl,ho⟩|⟨⟨⟩,j,hx,⟨rfl,sV⟩,ho⟩)))
 ·exact⟨rfl,Ran.bad (by rw[HM.out,<-HD.out,hx];rfl) ((Ba (aA DY.out pM)).trans ho)⟩
 go_ret
 exact Ran.good (by rw[HM.out,<-HD.out,hx];rfl) ⟨rfl,sV⟩ ((Ba (aA DY.out pM)).trans ho)):p:=h
abbrev effectB:bA:=bs [102,105,108,101,115,32,110,101,116,32,99,108,111,99,107,32,115,101,99,114,101,116,115]
abbrev bF:List bA:=[nI,kNet,nJ,jD]
theorem effFields:(Lib.fields effectB.data.toList).map (fun l=>Value.string ⟨l.toArray⟩)=bF.map Value.string:=W7
theorem effLen:(Lib.fields effectB.data.toList).length=4:=W7
theorem effAscii:∀(j:Nat)b,effectB.data.toList[j]? =some b->b.toNat<128:=by
 have h:effectB.data.toList.all (fun b=>decide (b.toNat<128))=true:=W7;intro j b hb;have:=List.all_eq_true.1 h b (List.mem_of_getElem? hb);simpa using this
theorem bitOf_idx(s:bA):(Lib.idxOfS bF s=0/\cA s=1)\/(Lib.idxOfS bF s=1/\cA s=2)\/(Lib.idxOfS bF s=2/\cA s=4)\/(Lib.idxOfS bF s=3/\cA s=8)\/(Lib.idxOfS bF s= -1/\cA s=0):=by
 unfold Lib.idxOfS cA;by_cases h1:s=nI
 ·left;subst h1;exact⟨rfl,rfl⟩
 by_cases h2:s=kNet
 ·right;left;subst h2;exact⟨rfl,rfl⟩
 by_cases h3:s=nJ
 ·right;right;left;subst h3;exact⟨rfl,rfl⟩
 by_cases h4:s=jD
 ·right;right;right;left;subst h4;exact⟨rfl,rfl⟩
 right;right;right;right;refine⟨?_,by rw[if_neg h1,if_neg h2,if_neg h3,if_neg h4]⟩;simp only[Lib.idxFromS,if_neg (Ne.symm h1),if_neg (Ne.symm h2),if_neg (Ne.symm h3),if_neg (Ne.symm h4)]
theorem effCells(w:World):∀j,j<bF.length->(w.alloc (.cells (bF.map Value.string).toArray 9)).cell? ⟨w.heap.size,0+j,none⟩=some (.string (bF.getD j ByteArray.empty)):=by
 intro j hj;rw[cell_of_row _ w.heap.size (0+j) _ _ _ (bY w _),Nat.zero_add]
 match j,hj with
 |0,_=>rfl
 |1,_=>rfl
 |2,_=>rfl
 |3,_=>rfl
theorem fieldsEff(w:World)(hs:Lib.TabIs Tryz.prog w "strings.asciiSpace" .u8 Lib.asciiSpaceTab):Calls Tryz.prog 153 #[.string effectB] w fun e w'=>e=.returned (.slice (some ⟨w.heap.size,0,none⟩) 4 4)/\w'=w.alloc (.cells (bF.map Value.string).toArray 9):=by
 have h:=Tryz.strings_Fields_laid effectB w VU effAscii hs;rw[effLen,effFields] at h;exact h
theorem iF(s:bA)(w:World)(hs:Lib.TabIs Tryz.prog w "strings.asciiSpace" .u8 Lib.asciiSpaceTab):
  Calls Tryz.prog 154 #[.string s] w fun e w'=>e=.returned (.int .i64 (cA s))/\Below w.heap.size w w':=by
 have HF:=zh (fieldsEff w hs);have HI:=zh (Tryz.slices_Index_string w.heap.size 0 4 4 bF s (w.alloc (.cells (bF.map Value.string).toArray 9)) (Nat.le_refl _) VU (effCells w));have HB:=zh (aC w (.cells (bF.map Value.string).toArray 9));rw[show bF.take 4=bF from rfl] at HI;have hb:=bitOf_idx s;generalize w.alloc (.cells (bF.map Value.string).toArray 9)=w1 at HF HI HB;generalize Lib.idxOfS bF s=q at HI hb;generalize cA s=r at hb ⊢;clear hs;rcases hb with⟨rfl,rfl⟩|⟨rfl,rfl⟩|⟨rfl,rfl⟩|⟨rfl,rfl⟩|⟨rfl,rfl⟩
 all_goals go_enter Tryz.func154,Tryz.ntmps154
 all_goals go_wp2_with(first|(go_at_call 153;refine HF.out.mono ?_;rintro e w2 ⟨rfl,rfl⟩)|(go_at_call 201;refine HI.out.mono ?_;rintro e w2 ⟨rfl,rfl⟩))
 all_goals go_ret
 all_goals exact⟨rfl,HB.out⟩
theorem more_any(p:Prs)(w:World)(i:Nat)(N:Nat->Prop)(t:Ty)(k:Int)(vf:Value)(s:bA)(h:p.At w i)(ht:eX N w t [.int .i64 k,vf])(rK:bL t<=9000000000000000000):
  Calls Tryz.prog 184 #[.pointer (some ⟨p.pb,0,none⟩),.agg #[.int .i64 k,vf],.string s] w (Ran p.S w (moreP p.l i t s) fun b j e w'=>e=.returned (.bool b)/\p.At w' j):=by
 have HA:=zh h;have HL:=zh (fun W(hW:Below w.heap.size w W)=>levels_any _ t N k vf W (Nat.le_refl _) rK (cB _ _ _ _ _ _ (aK.later hW) ht));have HI:=zh (fun W(hW:p.At W i)=>fU p W i bE hW);have HE:=zh (fun W f s(hW:p.At W i)=>end_any p W i f s hW);have HM:Hid (moreP p.l i t s=if isP p.l i bE then(mF p.l i (decide (bL t<=4)) bE).bnd fun _ j=>.ok (false,j) else(mF p.l i (decide (bL t<=4)) s).bnd fun _ j=>.ok (true,j)):=zh rfl
 have hvf:∃a n c,vf=.slice a n c:=by
  cases t;rw[dY] at ht;obtain⟨v,e,a,c,rfl,-⟩:=ht;cases e;exact⟨_,_,_,rfl⟩
 obtain⟨a,n,c,rfl⟩:=hvf;clear h ht rK;have hdec:decide ((bL t:Int)<=4)=decide (bL t<=4):=WX;have HD:=zh hdec;clear hdec;generalize bL t=lv at HL HM HD;generalize isP p.l i bE=q at HI HM
 cases q with
 |true=>
  exact SX
 |false=>
  exact SX
def posOf(w:World)(pb:Nat):Nat:=match w.cell? ⟨pb,1,none⟩ with
 |some (.int _ n)=>n.toNat
 |_=>0
theorem Prs.At.pos{p:Prs}{w:World}{i:Nat}(h:p.At w i):posOf w p.pb=i:=by unfold posOf;rw[h.box1];simp
theorem bx{w:World}{b:Nat}{cs:Array Value}{t:TypeId}(h:w.heap[b]? =some (.cells cs t))(i:Nat){u:Value}(hu:cs[i]? =some u):w.cell? ⟨b,i,none⟩=some u/\w.frozen? ⟨b,i,none⟩=false:=by
 constructor<;>simp[World.cell?,World.frozen?,h,hu]
theorem PR.bnd_bad{α β:Type}{m:PR α}{k:α->Nat->PR β}{x:Int×Int}(h:m=.error x):m.bnd k=.error x:=by rw[h];rfl
theorem PR.bnd_ok{α β:Type}{m:PR α}{k:α->Nat->PR β}{a:α}{j:Nat}(h:m=.ok (a,j)):m.bnd k=k a j:=by rw[h];rfl
theorem PR.of_bnd{α β:Type}{m:PR α}{k:α->Nat->PR β}{b:β}{j:Nat}(h:m.bnd k=.ok (b,j)):∃a i,m=.ok (a,i)/\k a i=.ok (b,j):=by
 unfold PR.bnd at h;split at h
 ·cases h
 exact⟨_,_,rfl,h⟩
section
variable {l:List Tok}
theorem cT{i j:Nat}{s:bA}(h:dN l i s=.ok ((),j)):j=i+1/\isP l i s=true:=by
 unfold dN at h;split at h
 ·cases h;exact⟨rfl,‹_›⟩
 cases h
theorem endP_ok{i j:Nat}{f:Bool}{s:bA}(h:mF l i f s=.ok ((),j)):j=i+1:=by
 unfold mF at h;split at h
 ·split at h
  ·cases h;rfl
  cases h
 cases h
theorem fQ{i j:Nat}{a:bA}(h:fR l i=.ok (a,j)):j=i+1:=by
 unfold fR at h;split at h
 ·cases h;rfl
 cases h
theorem laterP_ok{i j:Nat}{a than:bA}{any:Bool}(h:fM l i than any=.ok (a,j)):j=i+1:=by
 unfold fM at h;split at h
 ·split at h
  ·cases h
  split at h
  ·cases h
  cases h;rfl
 cases h
theorem pC{i j:Nat}{a:bA}{known:bA->Bool}(h:gH l i known=.ok (a,j)):j=i+1:=by
 unfold gH at h;split at h
 ·split at h
  ·cases h
  cases h;rfl
 cases h
theorem oW{i j:Nat}{t:Ty}{s:bA}{b:Bool}(h:moreP l i t s=.ok (b,j)):j=i+1:=by
 unfold moreP at h;split at h
 ·obtain⟨a,k,h1,h2⟩:=PR.of_bnd h;have:=endP_ok h1;cases h2;exact this
 obtain⟨a,k,h1,h2⟩:=PR.of_bnd h;have:=endP_ok h1;cases h2;exact this
theorem oN{rec:Nat->PR Ty}{D:Nat}(hr:∀i t j,rec i=.ok (t,j)->bL t<=D):∀(F:Nat)(fs:List Fld)(i:Nat)(t:Ty)(j:Nat),cX fs<=D->eY l rec F fs i=.ok (t,j)->bL t<=D+1
 |0,fs,i,t,j,hf,h=>by
  unfold eY at h;cases h;rw[bL];omega
 |F+1,fs,i,t,j,hf,h=>by
  unfold eY at h;obtain⟨_,_,-,h⟩:=PR.of_bnd h;obtain⟨s,j1,-,h⟩:=PR.of_bnd h;obtain⟨u,j2,hu,h⟩:=PR.of_bnd h;obtain⟨q,j3,-,h⟩:=PR.of_bnd h;have hu2:=hr _ _ _ hu
  have hn:cX (fs++[(s,u)])<=D:=by
   have h1:=oD (fs++[(s,u)]) fs.length (s,u) VY;rw[List.take_of_length_le VY,List.take_left] at h1;rw[h1];exact Nat.max_le.2 ⟨hf,hu2⟩
  split at h
  ·cases h;rw[bL];omega
  exact oN hr F _ _ t j hn h
theorem lJ:∀(f i:Nat)(t:Ty)(j:Nat),fW l f i=.ok (t,j)->bL t<=f
 |0,i,t,j,h=>by unfold fW at h;cases h
 |f+1,i,t,j,h=>by
  unfold fW at h;split at h
  ·cases h;simp[bL,cX]
  split at h
  ·cases h;simp[bL,cX]
  obtain⟨_,j1,-,h⟩:=PR.of_bnd h;split at h
  ·cases h;simp[bL,cX]
  exact oN (fun i t j h=>lJ f i t j h) _ _ _ t j (by simp[cX]) h
def iI(fs:List Fld):bA:=(fs.getLast?.map (·.1)).getD noB
theorem fX{rec:Nat->PR Ty}{F:Nat}{fs:List Fld}{i:Nat}(hq:dC l i=true):eY l rec (F+1) fs i=
  (gX l i fs.length 8).bnd fun _ _=>(fM l i (iI fs) (decide (0<fs.length))).bnd fun s j=>(rec j).bnd fun t j2=>(moreP l j2 t dO).bnd fun q j3=>
   if q then .ok (.mk 2 (fs++[(s,t)]),j3) else eY l rec F (fs++[(s,t)]) j3:=by
 rw[eY,if_pos hq];rfl
theorem oM{rec:Nat->PR Ty}{F:Nat}{fs:List Fld}{i:Nat}(hq:dC l i=false):eY l rec (F+1) fs i=.error ((aM l i).pos,11):=by
 rw[eY,if_neg YM];unfold fM;rw[hq];rfl
end
end Go.Proofs.YtiionicikdnnpaaGreatDoor
namespace Go.Proofs.YtiionicikdnnpaaGreatDoor
open Go.RowKit
theorem TH{p:Prop}(h:p:=by
 rename_i tM;subst tM;have hR:=qO.out.trans ((PR.bnd_ok EG.out).trans ((PR.bnd_ok qX.out).trans ((PR.bnd_ok qJ).trans (if_neg VY))));have DO:=oW qJ;have NS:=sK.lt;obtain⟨F',uJ⟩:∃F',F=F'+1:=⟨F-1,VS⟩;have HR':=zh hR;have KP:=zh sK;clear hR sK;go_roundw
 case rel=>
  subst uJ;exact⟨j3,F',_,_,_,zh ⟨xX.out,KP.out,HR'.out,VS,VS⟩⟩
 case measure=>
  rw[KP.out.pos,HT.out.2.1.pos];omega):p:=h
theorem TZ{p:Prop}(h:p:=by
 refine⟨_,rfl,hs,?_⟩;refine cB.wide (cB.off tI o9 (fun b hb hn=>by have hn:(w6.alloc (bZ a 0 none 0 0)).heap.size<=b:=hn;omega)) fun b hn _=>?_;have hn:(w6.alloc (bZ a 0 none 0 0)).heap.size<=b:=hn
 exact⟨VS,fun e=>by have:=pS b e;omega⟩):p:=h
theorem U3{p:Prop}(h:p:=by
 refine oL (N:=bP B) hR VS xX.out.off sK HS.out ?_ (fun b hb=>Y6);rw[dY]
 exact⟨_,rfl,xX.out.acc.row aS⟩):p:=h
theorem VF{p:Prop}(h:p:=by
 exact⟨rfl,Ran.bad' (qO.out.trans ((PR.bnd_ok EG.out).trans ((PR.bnd_ok qX.out).trans (PR.bnd_bad qJ)))) xX.out.off⟩):p:=h
theorem VL{p:Prop}(h:p:=by
 exact⟨rfl,Ran.bad' (by have e:=(iN vA).symm.trans hx;cases e;exact HT.out.2.2.1.trans (oM vA)) D7.out.off⟩):p:=h
theorem Off.fresh{S:Nat->Prop}{w w':World}{B:Nat}(h:Off (fun k=>S k\/B<=k) w w')(hB:w.heap.size<=B):Off S w w':=
 ⟨h.os,h.tape,h.output,h.size,fun k hk hn=>h.block k hk (fun hs=>hs.elim hn (fun hb=>VS))⟩
theorem Off.or{S:Nat->Prop}{w w':World}(B:Nat)(h:Off S w w'):Off (fun k=>S k\/B<=k) w w':=h.mono fun _ h=>.inl h
theorem encT_slice{N:Nat->Prop}{w:World}{t:Ty}{k:Int}{vf:Value}(h:eX N w t [.int .i64 k,vf]):∃a n c,vf=.slice a n c:=by
 cases t;rw[dY] at h;obtain⟨v,e,a,c,rfl,-⟩:=h;cases e;exact⟨_,_,_,rfl⟩
theorem fldInfo:(Tryz.prog.info? 105).map (fun i=>(i.zero,i.size,i.bytes))=some (some (.agg #[.string ByteArray.empty,.int .i64 0,.slice none 0 0]),3,48):=VT
theorem bxT2{w:World}{b:Nat}{x y:Value}{t:TypeId}(h:w.heap[b]? =some (.cells #[x,y] t)):w.cell? ⟨b,0,none⟩=some x/\w.cell? ⟨b,1,none⟩=some y/\w.frozen? ⟨b,0,none⟩=false/\w.frozen? ⟨b,1,none⟩=false:=
 ⟨(bx h 0 rfl).1,(bx h 1 rfl).1,(bx h 0 (u:=x) rfl).2,(bx h 1 (u:=y) rfl).2⟩
theorem bxT3{w:World}{b:Nat}{x y z:Value}{t:TypeId}(h:w.heap[b]? =some (.cells #[x,y,z] t)):w.cell? ⟨b,0,none⟩=some x/\w.cell? ⟨b,1,none⟩=some y/\w.cell? ⟨b,2,none⟩=some z/\w.frozen? ⟨b,0,none⟩=false/\w.frozen? ⟨b,1,none⟩=false/\w.frozen? ⟨b,2,none⟩=false:=
 ⟨(bx h 0 rfl).1,(bx h 1 rfl).1,(bx h 2 rfl).1,(bx h 0 (u:=x) rfl).2,(bx h 1 (u:=y) rfl).2,(bx h 2 (u:=z) rfl).2⟩
def TypedOk(p:Prs)(f:Nat):Prop:=∀(i:Nat)(w:World),p.At w i->p.l.length<f+i->Calls Tryz.prog 115 #[.pointer (some ⟨p.pb,0,none⟩)] w
 (Ran p.S w (fW p.l f i) fun t j e w'=>∃k sa sn sc,e=.returned (.agg #[.int .i64 k,.slice sa sn sc])/\eX (bP w.heap.size) w' t [.int .i64 k,.slice sa sn sc]/\p.At w' j/\i<j)
structure TyL (p:Prs) (W:World) (b3 B:Nat) (fs:List Fld) (css:List (List Value)) (v:Value) (wr:World):Prop where
 off:Off p.S W wr
 res:wr.heap[W.heap.size]? =some (dT 0 none 0 0)
 loc:wr.heap[b3]? =some (.cells #[.int .i64 2,v] 45)
 acc:Gro 3 105 eH B fs css v wr
 b3:W.heap.size<b3/\b3<B
 pb:p.pb<W.heap.size
 few:fs.length<=8
 val:(fs=[]/\v=.slice none 0 0)\/∃m g cap,fs.length=m+1/\v=.slice (some ⟨g,0,none⟩) (m+1) cap
section
variable {p:Prs} {W wr w':World} {b3 B:Nat} {fs:List Fld} {css:List (List Value)} {v:Value}
theorem TyL.next(h:TyL p W b3 B fs css v wr)(ho:Off p.S wr w'):TyL p W b3 B fs css v w':=
 ⟨h.off.trans ho,ho.heap (fun e=>by have:=h.pb;have e:W.heap.size=p.pb:=e;omega) h.res,ho.heap (fun e=>by have:=h.pb;have:=h.b3;have e:b3=p.pb:=e;omega) h.loc,
  h.acc.stays aS (cV.of_off ho fun b hb=>.inl (by have:=h.pb;have:=h.b3;have hb:b=p.pb:=hb;omega)),h.b3,h.pb,h.few,h.val⟩
theorem TyL.last(h:TyL p W b3 B fs css v wr){m g cap:Nat}(hm:fs.length=m+1)(hv:v=.slice (some ⟨g,0,none⟩) (m+1) cap):wr.cell? ⟨g,m*3,none⟩=some (.string (iI fs)):=by
 obtain⟨a,c,e,-,-,h3⟩:=h.acc.row aS;rw[hv] at e;obtain⟨b,o,ha,-,hc⟩:=h3 (fun e=>by rw[e] at hm;simp at hm);injection e with e1 e2 e3
 rw[ha] at e1;cases e1;obtain⟨x,hx,-⟩:=getElem?_of_lt (l:=fs) (k:=m) VS;obtain⟨cs,⟨ct,rfl,-⟩,-,hj⟩:=hc m x hx;have:=hj 0 (.string x.1) rfl
 have hl:iI fs=x.1:=by
  unfold iI;rw[List.getLast?_eq_getElem?,hm,show m+1-1=m by omega,hx];rfl
 rw[hl];simpa using this
end
theorem oL{p:Prs}{W w:World}{r:PR Ty}{i j:Nat}{t:Ty}{k:Int}{sa:Option Addr}{sn sc:Nat}{N:Nat->Prop}(hr:r=.ok (t,j))(DP:i<j)(ho:Off p.S W w)(ha:p.At w j)(hW:p.At W i)(ht:eX N w t [.int .i64 k,.slice sa sn sc])(hN:∀b,N b->W.heap.size<b):
  Ran p.S W r (fun t j e w'=>∃k sa sn sc,e=.returned (.agg #[.int .i64 k,.slice sa sn sc])/\eX (bP W.heap.size) w' t [.int .i64 k,.slice sa sn sc]/\p.At w' j/\i<j) (.returned (.agg #[.int .i64 k,.slice sa sn sc])) ((w.setCell ⟨W.heap.size,0,none⟩ (.int .i64 k)).setCell ⟨W.heap.size,1,none⟩ (.slice sa sn sc)):=by
 have pY:Off (fun b=>b=W.heap.size) w ((w.setCell ⟨W.heap.size,0,none⟩ (.int .i64 k)).setCell ⟨W.heap.size,1,none⟩ (.slice sa sn sc)):=(Off.setCell (S:=fun b=>b=W.heap.size) w rfl).trans (Off.setCell (S:=fun b=>b=W.heap.size) _ rfl);refine Ran.good hr ⟨k,sa,sn,sc,rfl,cB _ _ _ _ _ _ (fun b hb _=>⟨Nat.le_of_lt (hN b hb),fun o v hv=>pY.cell (fun e=>by have:=hN b hb;omega) hv⟩) ht,?_,DP⟩ ?_
 ·exact ha.off pY (fun e=>by have:=hW.blt;omega) (fun e=>by have:=gZ (hW.toks i _ hW.tok).1.1;omega) (fun k hk e=>by have:=hW.glob.big;omega)
 exact Off.fresh ((ho.or _).trans (pY.mono fun b hb=>.inr (Nat.le_of_eq hb.symm))) (Nat.le_refl _)
theorem Prs.At.above{p:Prs}{W w w':World}{i j:Nat}(hW:p.At W i)(h:p.At w j)(ho:Off (fun k=>W.heap.size<=k) w w'):p.At w' j:=
 h.off ho (fun e=>by have:=hW.blt;omega) (fun e=>by have:=gZ (hW.toks i _ hW.tok).1.1;omega) (fun k hk e=>by have:=hW.glob.big;omega)
theorem eF.off{α:Type}{enc:(Nat->Prop)->World->α->List Value->Prop}(he:eF enc){S N:Nat->Prop}{w w':World}{x:α}{cs:List Value}(h:enc N w x cs)(ho:Off S w w')(hS:∀b,S b->¬N b):enc N w' x cs:=
 he _ _ _ _ _ _ (fun b hb _=>⟨hb,fun _ _ hv=>ho.cell (fun hs=>hS b hs hb) hv⟩) h
theorem eF.wide{α:Type}{enc:(Nat->Prop)->World->α->List Value->Prop}(he:eF enc){N N':Nat->Prop}{w:World}{x:α}{cs:List Value}(h:enc N w x cs)(hN:∀b,N b->b<w.heap.size->N' b):enc N' w x cs:=
 he _ _ _ _ _ _ (fun b hb hl=>⟨hN b hb hl,fun _ _ hv=>hv⟩) h
theorem TyL.added{p:Prs}{W w9 rH:World}{b3 B g cap:Nat}{fs:List Fld}{css:List (List Value)}{v:Value}{x:Fld}{news:List Value}(h:TyL p W b3 B fs css v w9)(hfew:fs.length<8)(hx:eH (nE B v) w9 x news)(hl:news.length=3)
  (pT:rH.ownsRow B 105 3 (.slice (some ⟨g,0,none⟩) (fs.length+1) cap) (fs.length+1) (css.flatten++news)) (pL:w9.grownBy rH v.ownBlock) (qW:v.ownBlock=some g\/g=w9.heap.size):
  TyL p W b3 B (fs++[x]) (css++[news]) (.slice (some ⟨g,0,none⟩) (fs.length+1) cap) (rH.setCell ⟨b3,1,none⟩ (.slice (some ⟨g,0,none⟩) (fs.length+1) cap)):=by
 have hA:=h.acc.added aS hx hl pT pL qW;have rK:=h.acc.big;have hb:=h.b3;have pS:=h.acc.lt;have o1:Off (fun k=>B<=k) w9 rH:=⟨pL.os,pL.tape,pL.output,pL.size,fun k hk hn=>pL.block k hk (fun e=>hn (pS k e.symm).1)⟩;have o2:Off (fun k=>k=b3) rH (rH.setCell ⟨b3,1,none⟩ (.slice (some ⟨g,0,none⟩) (fs.length+1) cap)):=Off.setCell (S:=fun k=>k=b3) rH rfl;refine⟨?_,?_,?_,hA.stays aS (cV.of_off o2 fun b pM=>.inl VS),hb,h.pb,XJ,.inr ⟨fs.length,g,cap,VY,rfl⟩⟩
 ·exact Off.fresh ((h.off.or _).trans ((o1.mono fun k hk=>.inr VS).trans (o2.mono fun k hk=>.inr VS))) (Nat.le_refl _)
 ·exact o2.heap VS (o1.heap VS h.res)
 rw[aW (o1.heap VS h.loc)];rfl
theorem TyL.step{p:Prs}{W w6 w7 rH:World}{b3 B g cap n1 i0 j2:Nat}{fs:List Fld}{css:List (List Value)}{v:Value}{a:bA}{t:Ty}{k:Int}{sa:Option Addr}{sn sc:Nat}(hW:p.At W i0)(h6:TyL p W b3 B fs css v w6)(hfew:fs.length<8)
  (qU:Off p.S (w6.alloc (bZ a 0 none 0 0)) w7) (sU:p.At w7 j2) (tI:eX (bP (w6.alloc (bZ a 0 none 0 0)).heap.size) w7 t [.int .i64 k,.slice sa sn sc]) (hs:a.size<=8000)
  (pT:rH.ownsRow B 105 3 (.slice (some ⟨g,0,none⟩) n1 cap) n1 (css.flatten++[.string a,.int .i64 k,.slice sa sn sc])) (hn:n1=fs.length+1) (pL:(((w7.setCell ⟨w6.heap.size,1,none⟩ (.int .i64 k)).setCell ⟨w6.heap.size,2,none⟩ (.slice sa sn sc)).alloc (bZ a k sa sn sc)).grownBy rH v.ownBlock) (qW:v.ownBlock=some g\/g=w7.heap.size+1):
  rH.heap[b3]? =some (.cells #[.int .i64 2,v] 45)/\TyL p W b3 B (fs++[(a,t)]) (css++[[.string a,.int .i64 k,.slice sa sn sc]]) (.slice (some ⟨g,0,none⟩) n1 cap) (rH.setCell ⟨b3,1,none⟩ (.slice (some ⟨g,0,none⟩) n1 cap))/\
  p.At (rH.setCell ⟨b3,1,none⟩ (.slice (some ⟨g,0,none⟩) n1 cap)) j2/\eX (bP (w6.heap.size+1)) (rH.setCell ⟨b3,1,none⟩ (.slice (some ⟨g,0,none⟩) n1 cap)) t [.int .i64 k,.slice sa sn sc]/\
  (rH.setCell ⟨b3,1,none⟩ (.slice (some ⟨g,0,none⟩) n1 cap)).heap[w6.heap.size]? =some (bZ a k sa sn sc):=by
 subst hn;have hb:=h6.b3;have rK:=h6.acc.big;have uS:=h6.pb;have pS:=h6.acc.lt;have tT:(w6.alloc (bZ a 0 none 0 0)).heap.size=w6.heap.size+1:=VY;have o7:Off p.S w6 w7:=(Ba (aC w6 (bZ a 0 none 0 0))).trans qU;have GS:w6.heap.size+1<=w7.heap.size:=by have:=qU.size;omega
 have o8:Off (fun b=>b=w6.heap.size) w7 ((w7.setCell ⟨w6.heap.size,1,none⟩ (.int .i64 k)).setCell ⟨w6.heap.size,2,none⟩ (.slice sa sn sc)):=(Off.setCell (S:=fun b=>b=w6.heap.size) w7 rfl).trans (Off.setCell (S:=fun b=>b=w6.heap.size) _ rfl);have o9:Off (fun b=>b=w6.heap.size) w7 (((w7.setCell ⟨w6.heap.size,1,none⟩ (.int .i64 k)).setCell ⟨w6.heap.size,2,none⟩ (.slice sa sn sc)).alloc (bZ a k sa sn sc)):=o8.trans (Ba (aC _ _));have O9:Off p.S w6 (((w7.setCell ⟨w6.heap.size,1,none⟩ (.int .i64 k)).setCell ⟨w6.heap.size,2,none⟩ (.slice sa sn sc)).alloc (bZ a k sa sn sc)):=Off.fresh ((o7.or w6.heap.size).trans (o9.mono fun b hb=>.inr VS)) (Nat.le_refl _);have h9:=h6.next O9
 have hx:eH (nE B v) (((w7.setCell ⟨w6.heap.size,1,none⟩ (.int .i64 k)).setCell ⟨w6.heap.size,2,none⟩ (.slice sa sn sc)).alloc (bZ a k sa sn sc)) (a,t) [.string a,.int .i64 k,.slice sa sn sc]:=by
  exact TZ
 have AW:(((w7.setCell ⟨w6.heap.size,1,none⟩ (.int .i64 k)).setCell ⟨w6.heap.size,2,none⟩ (.slice sa sn sc)).alloc (bZ a k sa sn sc)).heap.size=w7.heap.size+1:=VY;have hT:=h9.added hfew hx rfl pT pL ZE;have GW:w7.heap[w6.heap.size]? =some (bZ a 0 none 0 0):=qU.heap (fun e=>by have e:w6.heap.size=p.pb:=e;omega) (bY w6 (bZ a 0 none 0 0))
 have hf8:(((w7.setCell ⟨w6.heap.size,1,none⟩ (.int .i64 k)).setCell ⟨w6.heap.size,2,none⟩ (.slice sa sn sc)).alloc (bZ a k sa sn sc)).heap[w6.heap.size]? =some (bZ a k sa sn sc):=by
  refine aD (aC _ _) ?_;rw[aW (aW GW _) _];rfl
 have yP:Off (fun b=>B<=b/\b<w6.heap.size) (((w7.setCell ⟨w6.heap.size,1,none⟩ (.int .i64 k)).setCell ⟨w6.heap.size,2,none⟩ (.slice sa sn sc)).alloc (bZ a k sa sn sc)) rH:=⟨pL.os,pL.tape,pL.output,pL.size,fun b hb hn=>pL.block b hb (fun e=>hn (by have:=pS b e.symm;exact this))⟩;have LC:Off (fun b=>b=b3) rH (rH.setCell ⟨b3,1,none⟩ (.slice (some ⟨g,0,none⟩) (fs.length+1) cap)):=Off.setCell (S:=fun b=>b=b3) rH rfl;refine⟨yP.heap VS h9.loc,hT,?_,?_,?_⟩
 ·exact hW.above sU ((o9.mono fun b hb=>VS).trans ((yP.mono fun b hb=>VS).trans (LC.mono fun b hb=>VS)))
 ·rw[tT] at tI;exact cB.off tI ((o9.mono (S':=fun b=>b<=w6.heap.size) fun b hb=>VS).trans ((yP.mono fun b hb=>VS).trans (LC.mono fun b hb=>VS))) (fun b hb hn=>by have hn:w6.heap.size+1<=b:=hn;omega)
 exact LC.heap VS (yP.heap VS hf8)
theorem iN{l:List Tok}{i:Nat}{than:bA}{any:Bool}(hq:dC l i=false):fM l i than any=.error ((aM l i).pos,11):=by unfold fM;rw[hq];rfl
theorem Ran.bad'{α:Type}{S:Nat->Prop}{w w':World}{r:PR α}{V:α->Nat->Ending->World->Prop}{x:Int×Int}(hr:r=.error x)(ho:Off S w w'):
  Ran S w r V (.panicked [{v:=.iface 144 (.agg #[.int .i64 x.1,.int .i64 x.2]),recovered:=false}]) w':=.inl ⟨x,hr,rfl,ho⟩
theorem typed_int(p:Prs)(f:Nat)(w:World)(i:Nat)(h:p.At w i)(hq:isP p.l i kIntW=true):Calls Tryz.prog 115 #[.pointer (some ⟨p.pb,0,none⟩)] w
  (Ran p.S w (fW p.l (f+1) i) fun t j e w'=>∃k sa sn sc,e=.returned (.agg #[.int .i64 k,.slice sa sn sc])/\eX (bP w.heap.size) w' t [.int .i64 k,.slice sa sn sc]/\p.At w' j/\i<j):=by
 have HR:Hid (fW p.l (f+1) i=.ok (.mk 0 [],i+1)):=zh (by unfold fW;rw[if_pos hq]);have HH:=zh (fK p (w.alloc (dT 0 none 0 0)) i kIntW (h.later (aC _ _)) hq);have HS:=zh h;have HO:=zh (Ba (S:=p.S) (aC w (dT 0 none 0 0)));have HB:=zh (bY w (dT 0 none 0 0));clear h hq;go_enter Tryz.func115,Tryz.ntmps115;go_wp2_with(go_at_call 120;refine HH.out.mono ?_;rintro e w1 ⟨rfl,qV,qI⟩;have pN:=qI.heap XW HB.out;obtain⟨c0,c1,f0,f1⟩:=bxT2 pN);refine bodyPost_ret (v:=.agg #[.int .i64 0,.slice none 0 0]) (by simp[results,Tryz.results115,go_sem,c0,c1]) rfl ?_;refine oL (N:=fun _=>False) HR.out VS (HO.out.trans qI) qV HS.out W4 (fun b hb=>hb.elim)
theorem typed_bool(p:Prs)(f:Nat)(w:World)(i:Nat)(h:p.At w i)(sL:isP p.l i kIntW=false)(hq:isP p.l i kBool=true):Calls Tryz.prog 115 #[.pointer (some ⟨p.pb,0,none⟩)] w
  (Ran p.S w (fW p.l (f+1) i) fun t j e w'=>∃k sa sn sc,e=.returned (.agg #[.int .i64 k,.slice sa sn sc])/\eX (bP w.heap.size) w' t [.int .i64 k,.slice sa sn sc]/\p.At w' j/\i<j):=by
 have HR:Hid (fW p.l (f+1) i=.ok (.mk 1 [],i+1)):=zh (by unfold fW;rw[if_neg (by rw[sL];simp),if_pos hq]);have HH0:=zh (bH p (w.alloc (dT 0 none 0 0)) i kIntW (h.later (aC _ _)) sL);have HH:=zh (fun W(hW:p.At W i)=>fK p W i kBool hW hq);have HS:=zh h;have HO:=zh (Ba (S:=p.S) (aC w (dT 0 none 0 0)));have HB:=zh (bY w (dT 0 none 0 0));clear h hq sL;go_enter Tryz.func115,Tryz.ntmps115;go_wp2_with(first|(go_at_call 120;refine(HH.out w1 qV).mono ?_;rintro e w2 ⟨rfl,rE,pY⟩;have pM:=pY.heap XW pN;obtain⟨c0,c1,f0,f1⟩:=bxT2 pM)|(go_at_call 120;refine HH0.out.mono ?_;rintro e w1 ⟨rfl,qV,qI⟩;have pN:=qI.heap XW HB.out));refine bodyPost_ret (v:=.agg #[.int .i64 1,.slice none 0 0]) (by simp[results,Tryz.results115,go_sem,c0,c1]) rfl ?_;refine oL (N:=fun _=>False) HR.out VS (HO.out.trans (qI.trans pY)) rE HS.out W4 (fun b hb=>hb.elim)
theorem typed_more(p:Prs)(f:Nat)(hf:f<=8010)(IJ:TypedOk p f)(w:World)(i:Nat)(h:p.At w i)(tD:p.l.length<f+1+i)(sL:isP p.l i kIntW=false)(hq:isP p.l i kBool=false):Calls Tryz.prog 115 #[.pointer (some ⟨p.pb,0,none⟩)] w
  (Ran p.S w (fW p.l (f+1) i) fun t j e w'=>∃k sa sn sc,e=.returned (.agg #[.int .i64 k,.slice sa sn sc])/\eX (bP w.heap.size) w' t [.int .i64 k,.slice sa sn sc]/\p.At w' j/\i<j):=by
 obtain⟨i0,wO,tS,rZ,rY⟩:=info_parts fldInfo;have HR:Hid (fW p.l (f+1) i=(dN p.l i bJ).bnd fun _ j=>if isP p.l j dO then .ok (.mk 2 [],j+1) else eY p.l (fW p.l f) (p.l.length+1) [] j):=zh (by rw[fW];rw[if_neg (by rw[sL];simp),if_neg YM]);have HRec:=zh IJ;have HH0:=zh (bH p (w.alloc (dT 0 none 0 0)) i kIntW (h.later (aC _ _)) sL);have HH:=zh (fun W(hW:p.At W i)=>bH p W i kBool hW hq);have OE:=zh (fun W(hW:p.At W i)=>dD p W i bJ hW);have HS:=zh h;have HO:=zh (Ba (S:=p.S) (aC w (dT 0 none 0 0)));have HB:=zh (bY w (dT 0 none 0 0));have pP:w.heap.size≠p.pb:=WG;clear h hq sL IJ;go_enter Tryz.func115,Tryz.ntmps115;go_wp2_with(first|(go_at_call 110;refine(OE.out w2 rE).mono ?_;rintro e w3 (⟨x,hx,rfl,qP⟩|⟨⟨⟩,j,hx,⟨rfl,sV⟩,qP⟩))|(go_at_call 120;refine(mN p (w3.alloc (dT 2 none 0 0)) j dO (sV.later (aC _ _))).mono ?_;rintro e w4 ⟨rfl,sQ,qH⟩;have hlt3:=sV.blt;have hl4:=zh (qH.heap (by intro e;have e:w3.heap.size=p.pb:=e;omega) (bY w3 (dT 2 none 0 0)));have hr4:=zh (qH.heap pP (aD (aC w3 (dT 2 none 0 0)) (qP.heap pP (pY.heap pP (qI.heap pP HB.out)))));obtain⟨c0,c1,f0,f1⟩:=bxT2 hl4.out;obtain⟨d0,d1,g0,g1⟩:=bxT2 hr4.out)|(go_at_call 120;refine(HH.out w1 qV).mono ?_;rintro e w2 ⟨rfl,rE,pY⟩)|(go_at_call 120;refine HH0.out.mono ?_;rintro e w1 ⟨rfl,qV,qI⟩))
 ·exact⟨rfl,Ran.bad (HR.out.trans (PR.bnd_bad hx)) (HO.out.trans (qI.trans (pY.trans qP)))⟩
 ·rename_i IK;have hj:j=i+1:=(cT hx).1;rw[if_pos IK] at sQ;have sS:Hid (fW p.l (f+1) i=.ok (.mk 2 [],j+1)):=zh (HR.out.trans ((PR.bnd_ok hx).trans (if_pos IK)));refine bodyPost_ret (v:=.agg #[.int .i64 2,.slice none 0 0]) (by simp[results,Tryz.results115,go_sem,d0,d1]) rfl ?_;refine oL (N:=fun _=>False) sS.out VS (HO.out.trans (qI.trans (pY.trans (qP.trans ((Ba (aC w3 (dT 2 none 0 0))).trans qH))))) sQ HS.out W4 (fun b hb=>hb.elim)
 rename_i IK;have hj:j=i+1:=(cT hx).1;rw[if_neg (by rw[IK];simp)] at sQ;have sS:Hid (fW p.l (f+1) i=eY p.l (fW p.l f) (p.l.length+1) [] j):=zh (HR.out.trans ((PR.bnd_ok hx).trans (if_neg (by rw[IK];simp))));have E7:=zh (HO.out.trans (qI.trans (pY.trans (qP.trans ((Ba (aC w3 (dT 2 none 0 0))).trans qH)))));have hsz3:w.heap.size<w3.heap.size:=(Array.getElem?_eq_some_iff.1 (qP.heap pP (pY.heap pP (qI.heap pP HB.out)))).1;have hsz4:w3.heap.size<w4.heap.size:=(Array.getElem?_eq_some_iff.1 hl4.out).1;have HJ:=zh hj;clear hj;have NE:=zh sQ;have HTy:Hid (TyL p w w3.heap.size w4.heap.size [] [] (.slice none 0 0) w4):=zh ⟨E7.out,hr4.out,hl4.out,Gro.first _ _ _ _,⟨hsz3,hsz4⟩,HS.out.blt,Nat.zero_le _,.inl ⟨rfl,rfl⟩⟩;clear qI pY qP qH qV rE sV sQ hl4 hr4 E7 HR IK c0 c1 f0 f1 d0 d1 g0 g1 HH0 HH OE HB HO hx;generalize w3.heap.size=b3 at *;generalize w4.heap.size=B at *;go_loopw [4] (fun s4 wr=>∃(q F:Nat)(fs:List Fld)(css:List (List Value))(v:Value),Hid (TyL p w b3 B fs css v wr/\p.At wr q/\fW p.l (f+1) i=eY p.l (fW p.l f) (F+1) fs q/\p.l.length<=F+q/\i<q)) (fun _ wr=>p.l.length-posOf wr p.pb)
 case atStart=>exact⟨j,p.l.length,[],[],_,zh ⟨HTy.out,NE.out,sS.out,VS,by have:=HJ.out;omega⟩⟩
 case round=>
  obtain⟨q,F,fs,css,v,HT⟩:=hrel;rename World=>wr
  have rD:=HT.out.2.1.len;have IK:=HT.out.2.2.2;rcases HT.out.1.val with⟨rfl,rfl⟩|⟨m,g,cap,hm,rfl⟩
  ·cases vA:dC p.l q with
   |false=>
    as_aux_lemma=>
     go_wp2_with(first|(go_at_call 182;refine(hM p wr q HT.out.2.1).mono ?_;rintro e w5 ⟨rfl,hb5⟩;rw[vA];have GQ:=zh (HT.out.2.1.later hb5);have EZ:=zh (HT.out.1.next (Ba hb5));obtain⟨c0,c1,f0,f1⟩:=bxT2 EZ.out.loc)|(go_at_call 183;refine(mS p w5 q ⟨#[]⟩ false GQ.out).mono ?_;rintro e w6 (⟨x,hx,rfl,qY⟩|⟨a,j1,hx,⟨rfl,tW,GU⟩,qY⟩)<;>have D7:=zh (EZ.out.next qY)))
     ·exact VL
     rw[iN vA] at hx;cases hx
   |true=>
    as_aux_lemma=>
     go_wp2_with(first|(go_at_call 182;refine(hM p wr q HT.out.2.1).mono ?_;rintro e w5 ⟨rfl,hb5⟩;rw[vA];have GQ:=zh (HT.out.2.1.later hb5);have EZ:=zh (HT.out.1.next (Ba hb5));obtain⟨c0,c1,f0,f1⟩:=bxT2 EZ.out.loc)|(go_at_call 49;refine(fL p w5 q _ _ GQ.out).mono ?_;rintro e w5' (⟨DS,rfl,rfl⟩|⟨DS,rfl,LZ⟩)<;>first|(cases DS;done)|skip)|(go_at_call 183;refine(mS p w5 q ⟨#[]⟩ false GQ.out).mono ?_;rintro e w6 (⟨x,hx,rfl,qY⟩|⟨a,j1,hx,⟨rfl,tW,GU⟩,qY⟩)<;>have D7:=zh (EZ.out.next qY))|(go_at_call 115;have pO:=laterP_ok hx;refine(HRec.out j1 (w6.alloc (bZ a 0 none 0 0)) (tW.later (aC _ _)) VS).mono ?_;rintro e w7 (⟨x2,qD,rfl,qU⟩|⟨t,j2,qD,⟨k,sa,sn,sc,rfl,tI,sU,LO⟩,qU⟩)<;>have GW:=zh (qU.heap (fun e=>YD) (bY w6 (bZ a 0 none 0 0)))<;>have QH:=zh (D7.out.next ((Ba (aC w6 (bZ a 0 none 0 0))).trans qU))<;>have rV:=D7.out.acc.big<;>have hn6:¬b3=w6.heap.size:=VS<;>have hn6':¬w6.heap.size=b3:=VS<;>obtain⟨c0',xC,f0',f1'⟩:=bxT2 QH.out.loc<;>obtain⟨d0,d1,d2,e0,e1,e2⟩:=bxT3 GW.out)|(at_builtin;have O9:Off p.S w6 (((w7.setCell ⟨w6.heap.size,1,none⟩ (.int .i64 k)).setCell ⟨w6.heap.size,2,none⟩ (.slice sa sn sc)).alloc (bZ a k sa sn sc)):=Off.fresh (((Ba (S:=p.S) (aC w6 (bZ a 0 none 0 0))).trans qU).or w6.heap.size |>.trans (((Off.setCell (S:=fun b=>p.S b\/w6.heap.size<=b) w7 (.inr (Nat.le_refl _))).trans (Off.setCell (S:=fun b=>p.S b\/w6.heap.size<=b) _ (.inr (Nat.le_refl _)))).trans (Ba (aC _ _)))) (Nat.le_refl _);have K3:=zh (D7.out.next O9);have tB:=K3.out.acc.big;have sZ:=K3.out.acc.own;refine wpList_append_lies _ rfl _ _ 24 rfl B 105 i0 (.agg #[.string ByteArray.empty,.int .i64 0,.slice none 0 0]) 3 48 Tryz.underlying24 wO tS rZ rY rfl VS (.slice none 0 0) 0 css.flatten W7 (by simpa using sZ) ⟨w7.heap.size,0,none⟩ 1 1 [.string a,.int .i64 k,.slice sa sn sc] W7 rfl (World.news_of_block (cs:=#[.string a,.int .i64 k,.slice sa sn sc]) (t:=105) (fr:=(0,0)) XK) WF VS WL VS (by simpa using tB) (w7.heap.size+1) VY ?_))
     ·have qO:=zh (HT.out.2.2.1.trans ((fX vA).trans (PR.bnd_ok (if_pos (show 0<8 by decide)))));have EG:Hid (fM p.l q (iI ([]:List Fld)) (decide (0<([]:List Fld).length))=_):=zh hx;exact⟨rfl,Ran.bad' (qO.out.trans (PR.bnd_bad EG.out)) D7.out.off⟩
     ·have qO:=zh (HT.out.2.2.1.trans ((fX vA).trans (PR.bnd_ok (if_pos (show 0<8 by decide)))));have EG:Hid (fM p.l q (iI ([]:List Fld)) (decide (0<([]:List Fld).length))=_):=zh hx;exact⟨rfl,Ran.bad' (qO.out.trans ((PR.bnd_ok EG.out).trans (PR.bnd_bad qD))) QH.out.off⟩
     have qO:=zh (HT.out.2.2.1.trans ((fX vA).trans (PR.bnd_ok (if_pos (show 0<8 by decide)))));have EG:Hid (fM p.l q (iI ([]:List Fld)) (decide (0<([]:List Fld).length))=_):=zh hx;intro g' cap' rH pT pL qW _;obtain⟨xM,JP,uI,BX,I5⟩:=D7.out.step HS.out VU qU sU tI GU pT rfl pL qW;obtain⟨m0,m1,n0,n1⟩:=bxT2 xM;obtain⟨q0,q1,q2,r0,r1,r2⟩:=bxT3 I5;have QJ:=zh JP;have qX:=zh qD;have HMr:=zh (more_any p _ j2 _ t k _ dO uI BX (Nat.le_trans (lJ f _ t j2 qD) VS));clear pT pL qW xM JP uI BX I5 tI sU qU GW QH O9 K3 tB sZ c0' xC f0' f1' d0 d1 d2 e0 e1 e2 hx qD;go_wp2_with(go_at_call 184;refine HMr.out.mono ?_;rintro e rO (⟨x3,qJ,rfl,rA⟩|⟨bb,j3,qJ,⟨rfl,sK⟩,rA⟩)<;>have xX:=zh (QJ.out.next rA)<;>obtain⟨y0,y1,z0,z1⟩:=bxT2 xX.out.loc<;>obtain⟨u0',u1',v0',v1'⟩:=bxT2 xX.out.res)
     ·exact VF
     ·rename_i tM;subst tM;have hR:=qO.out.trans ((PR.bnd_ok EG.out).trans ((PR.bnd_ok qX.out).trans ((PR.bnd_ok qJ).trans (if_pos rfl))));have DO:=oW qJ;refine bodyPost_ret (v:=.agg #[.int .i64 2,.slice (some ⟨g',0,none⟩) 1 cap']) (by simp[results,Tryz.results115,go_sem,u0',u1']) rfl ?_;exact U3
     exact TH
  have hmb:(m:Int)+1<=8:=by have:=HT.out.1.few;omega
  cases vA:dC p.l q with
  |false=>
   as_aux_lemma=>
    go_wp2_with(first|(go_at_call 182;refine(hM p wr q HT.out.2.1).mono ?_;rintro e w5 ⟨rfl,hb5⟩;rw[vA];have GQ:=zh (HT.out.2.1.later hb5);have EZ:=zh (HT.out.1.next (Ba hb5));obtain⟨c0,c1,f0,f1⟩:=bxT2 EZ.out.loc;have cl:=EZ.out.last hm rfl)|(go_at_call 183;refine(mS p w5 q (iI fs) true GQ.out).mono ?_;rintro e w6 (⟨x,hx,rfl,qY⟩|⟨a,j1,hx,⟨rfl,tW,GU⟩,qY⟩)<;>have D7:=zh (EZ.out.next qY)))
    ·exact VL
    rw[iN vA] at hx;cases hx
  |true=>
   as_aux_lemma=>
    go_wp2_with(first|(go_at_call 182;refine(hM p wr q HT.out.2.1).mono ?_;rintro e w5 ⟨rfl,hb5⟩;rw[vA];have GQ:=zh (HT.out.2.1.later hb5);have EZ:=zh (HT.out.1.next (Ba hb5));obtain⟨c0,c1,f0,f1⟩:=bxT2 EZ.out.loc;have cl:=EZ.out.last hm rfl)|(go_at_call 49;refine(fL p w5 q _ _ GQ.out).mono ?_;rintro e w5' (⟨DS,rfl,rfl⟩|⟨DS,rfl,LZ⟩))|(go_at_call 183;refine(mS p w5 q (iI fs) true GQ.out).mono ?_;rintro e w6 (⟨x,hx,rfl,qY⟩|⟨a,j1,hx,⟨rfl,tW,GU⟩,qY⟩)<;>have D7:=zh (EZ.out.next qY))|(go_at_call 115;have pO:=laterP_ok hx;refine(HRec.out j1 (w6.alloc (bZ a 0 none 0 0)) (tW.later (aC _ _)) VS).mono ?_;rintro e w7 (⟨x2,qD,rfl,qU⟩|⟨t,j2,qD,⟨k,sa,sn,sc,rfl,tI,sU,LO⟩,qU⟩)<;>have GW:=zh (qU.heap (fun e=>YD) (bY w6 (bZ a 0 none 0 0)))<;>have QH:=zh (D7.out.next ((Ba (aC w6 (bZ a 0 none 0 0))).trans qU))<;>have rV:=D7.out.acc.big<;>have hn6:¬b3=w6.heap.size:=VS<;>have hn6':¬w6.heap.size=b3:=VS<;>obtain⟨c0',xC,f0',f1'⟩:=bxT2 QH.out.loc<;>obtain⟨d0,d1,d2,e0,e1,e2⟩:=bxT3 GW.out)|(at_builtin;have O9:Off p.S w6 (((w7.setCell ⟨w6.heap.size,1,none⟩ (.int .i64 k)).setCell ⟨w6.heap.size,2,none⟩ (.slice sa sn sc)).alloc (bZ a k sa sn sc)):=Off.fresh (((Ba (S:=p.S) (aC w6 (bZ a 0 none 0 0))).trans qU).or w6.heap.size |>.trans (((Off.setCell (S:=fun b=>p.S b\/w6.heap.size<=b) w7 (.inr (Nat.le_refl _))).trans (Off.setCell (S:=fun b=>p.S b\/w6.heap.size<=b) _ (.inr (Nat.le_refl _)))).trans (Ba (aC _ _)))) (Nat.le_refl _);have K3:=zh (D7.out.next O9);have tB:=K3.out.acc.big;have sZ:=K3.out.acc.own;refine wpList_append_lies _ rfl _ _ 24 rfl B 105 i0 (.agg #[.string ByteArray.empty,.int .i64 0,.slice none 0 0]) 3 48 Tryz.underlying24 wO tS rZ rY rfl VS (.slice (some ⟨g,0,none⟩) (m+1) cap) (m+1) css.flatten W7 (by simpa[hm] using sZ) ⟨w7.heap.size,0,none⟩ 1 1 [.string a,.int .i64 k,.slice sa sn sc] W7 rfl (World.news_of_block (cs:=#[.string a,.int .i64 k,.slice sa sn sc]) (t:=105) (fr:=(0,0)) XK) WF VS WL VS (by simpa using tB) (w7.heap.size+1) VY ?_))
    ·have qO:=zh (HT.out.2.2.1.trans ((fX vA).trans (PR.bnd_ok (if_pos (show fs.length<8 by rw[hm];simp at DS;omega)))));have EG:=zh ((congrArg (fM p.l q (iI fs)) (decide_eq_true (show 0<fs.length by omega))).trans hx);exact⟨rfl,Ran.bad' (qO.out.trans (PR.bnd_bad EG.out)) D7.out.off⟩
    ·have qO:=zh (HT.out.2.2.1.trans ((fX vA).trans (PR.bnd_ok (if_pos (show fs.length<8 by rw[hm];simp at DS;omega)))));have EG:=zh ((congrArg (fM p.l q (iI fs)) (decide_eq_true (show 0<fs.length by omega))).trans hx);exact⟨rfl,Ran.bad' (qO.out.trans ((PR.bnd_ok EG.out).trans (PR.bnd_bad qD))) QH.out.off⟩
    ·have qO:=zh (HT.out.2.2.1.trans ((fX vA).trans (PR.bnd_ok (if_pos (show fs.length<8 by rw[hm];simp at DS;omega)))));have EG:=zh ((congrArg (fM p.l q (iI fs)) (decide_eq_true (show 0<fs.length by omega))).trans hx);intro g' cap' rH pT pL qW _;obtain⟨xM,JP,uI,BX,I5⟩:=D7.out.step HS.out (by rw[hm];simp at DS;omega) qU sU tI GU pT (by rw[hm]) pL qW;obtain⟨m0,m1,n0,n1⟩:=bxT2 xM;obtain⟨q0,q1,q2,r0,r1,r2⟩:=bxT3 I5;have QJ:=zh JP;have qX:=zh qD;have HMr:=zh (more_any p _ j2 _ t k _ dO uI BX (Nat.le_trans (lJ f _ t j2 qD) VS));clear pT pL qW xM JP uI BX I5 tI sU qU GW QH O9 K3 tB sZ c0' xC f0' f1' d0 d1 d2 e0 e1 e2 hx qD;go_wp2_with(go_at_call 184;refine HMr.out.mono ?_;rintro e rO (⟨x3,qJ,rfl,rA⟩|⟨bb,j3,qJ,⟨rfl,sK⟩,rA⟩)<;>have xX:=zh (QJ.out.next rA)<;>obtain⟨y0,y1,z0,z1⟩:=bxT2 xX.out.loc<;>obtain⟨u0',u1',v0',v1'⟩:=bxT2 xX.out.res)
     ·exact VF
     ·rename_i tM;subst tM;have hR:=qO.out.trans ((PR.bnd_ok EG.out).trans ((PR.bnd_ok qX.out).trans ((PR.bnd_ok qJ).trans (if_pos rfl))));have DO:=oW qJ;refine bodyPost_ret (v:=.agg #[.int .i64 2,.slice (some ⟨g',0,none⟩) (m+1+1) cap']) (by simp[results,Tryz.results115,go_sem,u0',u1']) rfl ?_;exact U3
     exact TH
    exact⟨rfl,Ran.bad (HT.out.2.2.1.trans ((fX vA).trans (PR.bnd_bad (if_neg (show ¬fs.length<8 by rw[hm];simp at DS;omega))))) (EZ.out.off.trans (Ba LZ))⟩
theorem typed_ok(p:Prs):∀f,f<=8010->TypedOk p f
 |0,_=>fun i w h hf=>by have:=h.lt;omega
 |f+1,hf=>fun i w h tD=>by
  have hr:=typed_ok p f VS
  cases h0:isP p.l i kIntW with
  |true=>exact typed_int p f w i h h0
  |false=>
   cases h1:isP p.l i kBool with
   |true=>exact typed_bool p f w i h h0 h1
   |false=>exact typed_more p f VS hr w i h tD h0 h1
theorem typed_any(p:Prs)(w:World)(i:Nat)(h:p.At w i):Calls Tryz.prog 115 #[.pointer (some ⟨p.pb,0,none⟩)] w
  (Ran p.S w (kD p.l i) fun t j e w'=>∃k sa sn sc,e=.returned (.agg #[.int .i64 k,.slice sa sn sc])/\eX (bP w.heap.size) w' t [.int .i64 k,.slice sa sn sc]/\p.At w' j/\i<j):=
 typed_ok p (p.l.length+1) (by have:=h.len;omega) i w h VS
theorem kU{l:List Tok}{i j:Nat}{t:Ty}(h:kD l i=.ok (t,j)):bL t<=l.length+1:=lJ _ _ _ _ h
end Go.Proofs.YtiionicikdnnpaaGreatDoor
namespace Go.Proofs.YtiionicikdnnpaaGreatDoor
open Go.RowKit
abbrev fC:List bA:=[kIf,mE,nN,nH,cQ,bU,fY]
theorem begins_word{l:List Tok}{i:Nat}(h1:(aM l i).kind≠1)(h2:(aM l i).kind≠2)(h3:(aM l i).kind≠3):iG l i=
  ((fC.any fun s=>decide ((aM l i).text=s))||decide (cA (aM l i).text≠0)||aP (aM l i).text):=by
 unfold iG;rw[if_neg h1,if_neg h2,if_neg h3]
theorem kOpen_list:aY.toList=[40]:=by rw[Lib.toList_data]
theorem kLBrace_list:bJ.toList=[123]:=by rw[Lib.toList_data]
theorem bwCells(w:World):∀(k:Nat)(x:bA),fC[k]? =some x->(w.alloc (.cells (fC.map Value.string).toArray 9)).cell? ⟨w.heap.size,k,none⟩=some (.string x):=fun k x hx=>by
 rw[cell_of_row _ w.heap.size k _ _ _ (bY w _)];rw[List.getElem?_toArray,List.getElem?_map,hx];rfl
theorem begins_any(p:Prs)(w:World)(i:Nat)(h:p.At w i):Calls Tryz.prog 247 #[.pointer (some ⟨p.pb,0,none⟩)] w fun e w'=>e=.returned (.bool (iG p.l i))/\Below w.heap.size w w':=by
 have HA:=zh h;have HN:=zh (fun W(hW:p.At W i)=>cJ p W i hW);have tT:=(h.toks i _ h.tok).2;have HM:=zh (fun W(hW:p.At W i)=>iL (aM p.l i).text W VS hW.glob);have uL:=zh (fun W(hW:p.At W i)=>iF (aM p.l i).text W hW.spc);have HW:=zh (fun h1 h2 h3=>begins_word (l:=p.l) (i:=i) h1 h2 h3);have qN:Hid ((aM p.l i).kind=1->iG p.l i=true):=zh (fun e=>by unfold iG;rw[if_pos e]);have pQ:Hid ((aM p.l i).kind=2->iG p.l i=(decide ((aM p.l i).text=aY)||decide ((aM p.l i).text=bJ))):=zh (fun e=>by unfold iG;rw[if_neg VS,if_pos e]);have qG:Hid ((aM p.l i).kind=3->iG p.l i=false):=zh (fun e=>by unfold iG;rw[if_neg VS,if_neg VS,if_pos e]);clear h tT;generalize iG p.l i=r at HW qN pQ qG ⊢;generalize aM p.l i=t at HN HM uL HW qN pQ qG;by_cases k1:t.kind=1
 ·have AL:(t.kind==1)=true:=by rw[beq_iff_eq];exact k1
  go_enter Tryz.func247,Tryz.ntmps247;go_wp2_with(go_at_call 50;refine(HN.out w HA.out).mono ?_;rintro e w1 ⟨rfl,pN⟩);go_ret;exact⟨aF (qN.out k1).symm,aA pN (aC _ _)⟩
 by_cases k2:t.kind=2
 ·have k2':(t.kind==2)=true:=by rw[beq_iff_eq];exact k2
  have AL:(t.kind==1)=false:=V9;have hR:=pQ.out k2;rw[<-eE,<-eE] at hR;have HR:=zh hR;clear hR;go_enter Tryz.func247,Tryz.ntmps247;go_wp2_with(go_at_call 50;refine(HN.out w HA.out).mono ?_;rintro e w1 ⟨rfl,pN⟩)
  ·go_ret;exact⟨aF (by rw[HR.out,kOpen_list,‹t.text.toList=[40]›];rfl),aA pN (aC _ _)⟩
  go_ret;exact⟨aF (by rw[HR.out,kOpen_list,kLBrace_list]),aA pN (aC _ _)⟩
 by_cases k3:t.kind=3
 ·have k3':(t.kind==3)=true:=by rw[beq_iff_eq];exact k3
  have k2':(t.kind==2)=false:=ZC;have AL:(t.kind==1)=false:=V9;go_enter Tryz.func247,Tryz.ntmps247;go_wp2_with(go_at_call 50;refine(HN.out w HA.out).mono ?_;rintro e w1 ⟨rfl,pN⟩);go_ret;exact⟨aF (qG.out k3).symm,aA pN (aC _ _)⟩
 have k3':(t.kind==3)=false:=by rw[beq_eq_false_iff_ne];exact k3
 have k2':(t.kind==2)=false:=ZC;have AL:(t.kind==1)=false:=V9;go_enter Tryz.func247,Tryz.ntmps247;go_wp2_with(go_at_call 50;refine(HN.out w HA.out).mono ?_;rintro e w1 ⟨rfl,pN⟩);have HR:=zh (HW.out k1 k2 k3);have C5:=zh (bwCells (w1.alloc (dA t.kind t.text t.n t.pos)));have HT:=zh (aB (aC (w1.alloc (dA t.kind t.text t.n t.pos)) (.cells (fC.map Value.string).toArray 9)) (bx (bY w1 (dA t.kind t.text t.n t.pos)) 1 (u:=.string t.text) rfl).1);have KN:=zh (aA pN (aA (aC w1 (dA t.kind t.text t.n t.pos)) (aC _ (.cells (fC.map Value.string).toArray 9))));have yM:=zh (HA.out.later KN.out);have hz:(w1.alloc (dA t.kind t.text t.n t.pos)).heap.size=w1.heap.size+1:=VY;rw[hz] at C5;have HAny:=zh (fun(k:Nat)(x:bA)(hx:fC[k]? =some x)(e:t.text=x)=>show(fC.any fun s=>decide (t.text=s))=true from List.any_eq_true.2 ⟨x,List.mem_of_getElem? hx,by simp[e]⟩);have HNone:=zh (fun(h:∀x,x∈fC->decide (t.text=x)=false)=>show(fC.any fun s=>decide (t.text=s))=false from by rw[List.any_eq_false];intro x hx;rw[h x hx];simp);clear hz;have rD:Hid (fC.length=7):=zh rfl;generalize hW2:(w1.alloc (dA t.kind t.text t.n t.pos)).alloc (.cells (fC.map Value.string).toArray 9)=W2 at C5 HT KN yM;change Code.wp _ _ _ _ ((w1.alloc (dA t.kind t.text t.n t.pos)).alloc (.cells (fC.map Value.string).toArray 9));rw[hW2];clear hW2 pN;generalize fC=L at *;go_loop [26] (fun idx=>∃k:Nat,k<=7/\idx=.int .i64 k/\Hid (∀x,x∈L.take k->decide (t.text=x)=false)) (fun idx=>7-(intOf idx).toNat)
 case atStart=>exact⟨0,Nat.zero_le _,rfl,zh VY⟩
 case round=>
  obtain⟨k,hk,rfl,HP⟩:=hrel;by_cases pS:k<7
  ·obtain⟨x,hx,-⟩:=getElem?_of_lt (l:=L) (k:=k) (by rw[rD.out];exact pS);have hc:=C5.out k x hx;have hT:=HT.out;have HX:=zh hx;clear hx;by_cases he:t.text=x
   ·(have LX:(t.text.toList==x.toList)=true:=by rw[eE];exact decide_eq_true he);have HE:=zh he;clear he;go_wp2_with fail;go_ret;exact⟨aF (by rw[HR.out,HAny.out k x HX.out HE.out];rfl),KN.out⟩
   (have LX:(t.text.toList==x.toList)=false:=by rw[eE];exact decide_eq_false he);have HE:=zh he;clear he;go_wp2_with fail
   go_round
   (case rel=>exact⟨k+1,VS,WH,zh (take_no HX.out (decide_eq_false HE.out) HP.out)⟩);case measure=>simp[intOf];omega
  have hk7:k=7:=VS;subst hk7;have HNo:=zh (HNone.out (fun x hx=>HP.out x (by rw[List.take_of_length_le (by rw[rD.out];decide)];exact hx)));have hT:=HT.out;generalize cA t.text=bv at uL HR;by_cases hbv:bv=0
  ·(have hbv':(bv != 0)=false:=by rw[hbv];rfl);go_wp2_with(first|(go_at_call 154;refine(uL.out W2 yM.out).mono ?_;rintro e w3 ⟨rfl,pR⟩;have NF:=zh (yM.out.later pR);have hT3:=aB pR hT)|(go_at_call 17;refine(HM.out w3 NF.out).mono ?_;rintro e w4 ⟨rfl,rfl⟩));go_ret;exact⟨aF (by rw[HR.out,HNo.out,decide_eq_false (by simpa using hbv)];rfl),aA KN.out pR⟩
  have hbv':(bv != 0)=true:=by rw[bne_iff_ne];exact hbv
  go_wp2_with(go_at_call 154;refine(uL.out W2 yM.out).mono ?_;rintro e w3 ⟨rfl,pR⟩);go_ret;exact⟨aF (by rw[HR.out,HNo.out,decide_eq_true (by simpa using hbv)];rfl),aA KN.out pR⟩
end Go.Proofs.YtiionicikdnnpaaGreatDoor
