/- Texts of this seat, joined. -/
import Derived.Test.YtiionicikdnnpaaGreatDoorNS
import Derived.Test.YtiionicikdnnpaaGreatDoorZr
set_option maxHeartbeats 2000000
set_option maxRecDepth 100000
set_option linter.unusedVariables false
set_option linter.unusedSimpArgs false
namespace Go.Proofs.YtiionicikdnnpaaGreatDoor
open Go.RowKit
theorem oO(p:Prs)(w:World)(i a b:Nat)(h:p.At w i):
  Calls Tryz.prog 113 #[.pointer (some ⟨p.pb,0,none⟩),.int .i64 (a:Int),.int .i64 (b:Int)] w (Ran p.S w (eH p.l i a b) fun _ j e w'=>e=.returned (.tuple #[])/\p.At w' j):=by
 have HA:=zh h;have HR:Hid (eH p.l i a b=if a<b then .ok ((),i) else .error ((aI p.l i).pos,6)):=zh rfl;clear h;by_cases qA:(a:Int)<(b:Int)
 ·have xC:decide ((a:Int)<(b:Int))=true:=decide_eq_true qA;go_enter Tryz.func113,Tryz.ntmps113;go_wp2_with(go_at_call 49;refine(fZ p _ i _ _ HA.out).mono ?_;rintro e w2 (⟨he,rfl,rfl⟩|⟨he,rfl,pN⟩)<;>first|(cases he;done)|skip);go_end0;exact Ran.good (by rw[HR.out,if_pos RY]) ⟨rfl,HA.out⟩ (Off.refl _ _)
 have xC:decide ((a:Int)<(b:Int))=false:=decide_eq_false qA;go_enter Tryz.func113,Tryz.ntmps113;go_wp2_with(go_at_call 49;refine(fZ p _ i _ _ HA.out).mono ?_;rintro e w2 (⟨he,rfl,rfl⟩|⟨he,rfl,pN⟩)<;>first|(cases he;done)|skip);exact⟨rfl,Ran.bad (by rw[HR.out,if_neg RY]) (Ba pN)⟩
theorem run_gtr_str(t:TypeId)(a b:bA)(w:World):(binOp .gtr t (.string a) (.string b)).run Tryz.prog w=.ok (.bool !(Op.bytesLess a.toList b.toList||a.toList==b.toList)) w:=by
 simp[binOp,Op.stringOp]
theorem mT(p:Prs)(w:World)(i:Nat)(than:bA)(any:Bool)(h:p.At w i):
  Calls Tryz.prog 183 #[.pointer (some ⟨p.pb,0,none⟩),.string than,.bool any] w (Ran p.S w (eC p.l i than any) fun a j e w'=>e=.returned (.string a)/\p.At w' j/\a.size<=8000):=by
 have HA:=zh h;have HI:=zh (iC p w i h);have HN:=zh (fun W(hW:p.At W i)=>cQ p W i hW);have HM:=zh (fun W(hW:p.At W i)=>fV p W i hW);have F1:=tokF1;have hG:=run_gtr_str
 cases hq:cG p.l i with
 |false=>
  have HW:Hid (eC p.l i than any=.error ((aI p.l i).pos,11)):=zh (by unfold eC;rw[hq];rfl);rw[hq] at HI;clear h hq;go_enter Tryz.func183,Tryz.ntmps183;exact P3
 |true=>
  have E0:Hid (fC p.l i=.ok ((aI p.l i).text,i+1)):=zh U9;have HW:Hid (eC p.l i than any=if any&&decide ((aI p.l i).text=than) then .error ((aI p.l i).pos,5) else if any&& !gtB (aI p.l i).text than then .error ((aI p.l i).pos,12) else .ok ((aI p.l i).text,i+1)):=zh (by unfold eC;rw[hq];rfl);rw[hq] at HI;clear h hq;generalize ht:aI p.l i=t at HN E0 HW;have BR:=zh ht;clear ht
  cases any with
  |false=>
   go_enter Tryz.func183,Tryz.ntmps183;go_wp2_with(first|(go_at_call 182;refine HI.out.mono ?_;rintro e w1 ⟨rfl,pO⟩;have qP:=zh (HA.out.later pO))|(go_at_call 49;refine(lP p _ _).mono ?_;rintro e w2 ⟨rfl,rfl⟩)|(go_at_call 111;refine(HM.out _ qP.out).mono ?_;rintro e w3 (⟨x,hx,rfl,ho⟩|⟨a,j,hx,⟨rfl,rY,sV⟩,ho⟩)))
   ·rw[E0.out] at hx;cases hx
   rw[E0.out] at hx;cases hx;go_ret;exact Ran.good (by rw[HW.out];rfl) ⟨rfl,rY,sV⟩ ((Ba pO).trans ho)
  |true=>
   go_enter Tryz.func183,Tryz.ntmps183;go_wp2_with(first|(go_at_call 182;refine HI.out.mono ?_;rintro e w1 ⟨rfl,pO⟩;have qP:=zh (HA.out.later pO))|(go_at_call 50;refine(HN.out w2 qY.out).mono ?_;rintro e w3 ⟨rfl,pX⟩;have rY:=zh (qY.out.later pX))|(go_at_call 50;refine(HN.out w1 qP.out).mono ?_;rintro e w2 ⟨rfl,pN⟩;have qY:=zh (qP.out.later pN))|(go_at_call 111;refine(HM.out w3 rY.out).mono ?_;rintro e w4 (⟨x,hx,rfl,ho⟩|⟨a,j,hx,⟨rfl,rR,sV⟩,ho⟩))|(go_at_call 49;refine(fZ p w3 i _ _ rY.out).mono ?_;rintro e w5 (⟨he3,rfl,rfl⟩|⟨he3,rfl,hb5⟩))|(go_at_call 49;refine(fZ p w2 i _ _ qY.out).mono ?_;rintro e w5 (⟨tZ,rfl,rfl⟩|⟨tZ,rfl,hb5⟩))|(go_at_call 49;refine(fZ p w1 i _ _ qP.out).mono ?_;rintro e w5 (⟨uL,rfl,rfl⟩|⟨uL,rfl,hb5⟩)<;>first|(cases uL;done)|skip))
   ·rw[E0.out] at hx;cases hx
   ·rw[E0.out] at hx;cases hx;(have e2:(t.text.toList==than.toList)=false:=by simpa using tZ);(have e3:gtB t.text than=true:=by unfold gtB;rw[e2];simpa using he3);go_wp2_with fail;go_ret;exact Ran.good (by rw[HW.out,e3,<-eE,e2];rfl) ⟨rfl,rR,sV⟩ ((Ba (aA pO (aA pN pX))).trans ho)
   ·(have e2:(t.text.toList==than.toList)=false:=by simpa using tZ);(have e3:gtB t.text than=false:=by unfold gtB;rw[e2];simpa using he3);exact⟨rfl,Ran.bad (by rw[BR.out,HW.out,e3,<-eE,e2];rfl) (Ba (aA pO (aA pN (aA pX hb5))))⟩
   (have e2:(t.text.toList==than.toList)=true:=by simpa using tZ);exact⟨rfl,Ran.bad (by rw[BR.out,HW.out,<-eE,e2];rfl) (Ba (aA pO (aA pN hb5)))⟩
def eN(known:bA->Bool)(x:bA):Option Bool:=if known x then some true else none
theorem setOf_getD(known:bA->Bool)(x:bA):(eN known x).getD false=known x:=by unfold eN;cases known x<;>rfl
theorem setOf_put(known:bA->Bool)(a:bA):(fun z=>if z=a then some true else eN known z)=eN (fun z=>decide (z=a)||known z):=by
 funext z;unfold eN;by_cases h:z=a<;>simp[h]
abbrev Prs.S2(p:Prs)(km:Nat):Nat->Prop:=fun k=>k=p.pb\/k=km
theorem Off.mono{S S':Nat->Prop}{w w':World}(h:Off S w w')(hS:∀k,S k->S' k):Off S' w w':=⟨h.os,h.tape,h.output,h.size,fun k hk hn=>h.block k hk (fun hs=>hn (hS k hs))⟩
theorem off_map{w w':World}{km:Nat}{S:Nat->Prop}(hS:S km)(hg:w.grownBy w' (some km)):Off S w w':=Off.of_only (only_grown hg) hS
section
variable {p:Prs} {w w':World} {i km n:Nat} {known:bA->Bool}
theorem Prs.At.nemap(h:p.At w i)(hm:gU w km):km≠p.pb/\km≠p.b:=by
 have h0:=h.lt;exact⟨fun e=>hm.ne h.box0 e.symm,fun e=>hm.ne (h.toks i _ h.tok).1.1 e.symm⟩
theorem Prs.At.grown(h:p.At w i)(hm:gU w km)(hk:11<=km)(hg:w.grownBy w' (some km)):p.At w' i:=by
 have hn:=h.nemap hm;exact h.off (S:=fun k=>k=km) (off_map rfl hg) (fun e=>hn.1 e.symm) (fun e=>hn.2 e.symm) (fun k JS e=>RY)
theorem map_off{P:Program}{kt et:TypeId}{κ ν:Type}{K:KeyC P kt κ}{V:ValC P et ν}{m:κ->Option ν}(h:p.At w i)(hm:bR K V w km n m)(ho:Off p.S w w'):bR K V w' km n m:=
 hm.of_block (ho.block km hm.lt (h.nemap (gU.of hm)).1)
end
theorem mU(p:Prs)(w:World)(i km n:Nat)(known:bA->Bool)(h:p.At w i)(hm:bR jQ fU w km n (eN known))(hk:11<=km)(hn:n<1000000):
  Calls Tryz.prog 114 #[.pointer (some ⟨p.pb,0,none⟩),.map (some km)] w (Ran (p.S2 km) w (fO p.l i known) fun a j e w'=>e=.returned (.string a)/\p.At w' j/\bR jQ fU w' km (n+1) (eN fun z=>decide (z=a)||known z)/\a.size<=8000):=by
 have HA:=zh h;have OC:=zh hm;have HI:=zh (iC p w i h);have HN:=zh (fun W(hW:p.At W i)=>cQ p W i hW);have HM:=zh (fun W(hW:p.At W i)=>fV p W i hW);have sV:=(h.toks i _ h.tok).2;have F1:=tokF1;have hS:∀k,p.S k->p.S2 km k:=fun k h=>.inl h
 cases hq:cG p.l i with
 |false=>
  have HW:Hid (fO p.l i known=.error ((aI p.l i).pos,11)):=zh (by unfold fO;rw[hq];rfl);rw[hq] at HI;clear h hq hm sV;go_enter Tryz.func114,Tryz.ntmps114;exact P3
 |true=>
  have E0:Hid (fC p.l i=.ok ((aI p.l i).text,i+1)):=zh U9;have HW:Hid (fO p.l i known=if known (aI p.l i).text then .error ((aI p.l i).pos,5) else .ok ((aI p.l i).text,i+1)):=zh (by unfold fO;rw[hq];unfold gO;rfl);rw[hq] at HI;clear h hq hm;generalize ht:aI p.l i=t at HN E0 HW sV;have BR:=zh ht;clear ht;have s1:t.text.size<=140737488355328:=RY;have HL:=zh (setOf_getD known t.text);have HP:=zh (setOf_put known t.text);generalize MT:known t.text=q at HL HW;clear MT;go_enter Tryz.func114,Tryz.ntmps114;go_wp2_with(first|(go_at_call 182;refine HI.out.mono ?_;rintro e w1 ⟨rfl,pO⟩;have qP:=zh (HA.out.later pO);have CW:=zh (OC.out.later pO))|(go_at_call 50;refine(HN.out w2 qY.out).mono ?_;rintro e w3 ⟨rfl,pX⟩;have rY:=zh (qY.out.later pX);have hm3:=zh (hm2.out.later pX))|(go_at_call 50;refine(HN.out w1 qP.out).mono ?_;rintro e w2 ⟨rfl,pN⟩;have qY:=zh (qP.out.later pN);have hm2:=zh (CW.out.later pN))|(go_at_call 111;refine(HM.out w4 rR.out).mono ?_;rintro e w5 (⟨x,hx,rfl,ho⟩|⟨a,j,hx,⟨rfl,sN,hsz5⟩,ho⟩))|(go_at_call 49;refine(fZ p w2 i _ _ qY.out).mono ?_;rintro e w5 (⟨tZ,rfl,rfl⟩|⟨tZ,rfl,hb5⟩))|(go_at_call 49;refine(fZ p w1 i _ _ qP.out).mono ?_;rintro e w5 (⟨uL,rfl,rfl⟩|⟨uL,rfl,hb5⟩)<;>first|(cases uL;done)|skip)|(at_lookup;refine cJ hm2.out s1 HL.out rfl rfl rfl rfl ?_)|(at_mapUpdate;refine lQ hm3.out RY s1 rfl rfl rfl rfl rfl ?_;intro w4 hm4 hg4;have rR:=zh (rY.out.grown (gU.of hm3.out) hk hg4);have hg4':=zh hg4;have hm4':=zh (hm4.ext (fun z=>congrFun HP.out z));clear hm4 hg4))
  ·rw[E0.out] at hx;cases hx
  ·rw[E0.out] at hx;cases hx;go_ret;(have hq:q=false:=by cases q<;>simp_all);exact Ran.good (by rw[HW.out,hq];rfl) ⟨rfl,sN,map_off rR.out hm4'.out ho,hsz5⟩ ((Ba (aA pO (aA pN pX))).trans ((off_map (.inr rfl) hg4'.out).trans (ho.mono hS)))
  have hq:q=true:=by cases q<;>simp_all
  exact⟨rfl,Ran.bad (by rw[BR.out,HW.out,hq];rfl) (Ba (aA pO (aA pN hb5)))⟩
end Go.Proofs.YtiionicikdnnpaaGreatDoor
namespace Go.Proofs.YtiionicikdnnpaaGreatDoor
open Go.RowKit
theorem PW{p:Prop}(h:p:=by
 go_enter Tryz.func184,Tryz.ntmps184;go_wp2_with(first|(go_at_call 117;refine(HL.out _ (aB _ _)).mono ?_;rintro e w1 ⟨rfl,pO⟩;have C2:=zh (aA (aB _ _) pO);have qP:=zh (HA.out.later C2.out))|(go_at_call 112;refine(HI.out w1 qP.out).mono ?_;rintro e w2 ⟨rfl,pN⟩;have qY:=zh (qP.out.later pN))|(go_at_call 116;refine(HE.out w2 _ _ qY.out).mono ?_;rintro e w3 (⟨x,hx,rfl,ho⟩|⟨⟨⟩,j,hx,⟨rfl,rY⟩,ho⟩)))
 ·exact⟨rfl,Ran.bad (by rw[HM.out,<-HD.out,hx];rfl) ((Ba (aA C2.out pN)).trans ho)⟩
 go_ret
 exact Ran.good (by rw[HM.out,<-HD.out,hx];rfl) ⟨rfl,rY⟩ ((Ba (aA C2.out pN)).trans ho)):p:=h
abbrev effectB:bA:=bs [102,105,108,101,115,32,110,101,116,32,99,108,111,99,107,32,115,101,99,114,101,116,115]
abbrev bG:List bA:=[nK,kNet,nL,jR]
theorem effFields:(Lib.fields effectB.data.toList).map (fun l=>Value.string ⟨l.toArray⟩)=bG.map Value.string:=TH
theorem effLen:(Lib.fields effectB.data.toList).length=4:=TH
theorem effAscii:∀(j:Nat)b,effectB.data.toList[j]? =some b->b.toNat<128:=by
 have h:effectB.data.toList.all (fun b=>decide (b.toNat<128))=true:=TH;intro j b hb;have:=List.all_eq_true.1 h b (List.mem_of_getElem? hb);simpa using this
theorem bitOf_idx(s:bA):(Lib.idxOfS bG s=0/\bN s=1)\/(Lib.idxOfS bG s=1/\bN s=2)\/(Lib.idxOfS bG s=2/\bN s=4)\/(Lib.idxOfS bG s=3/\bN s=8)\/(Lib.idxOfS bG s= -1/\bN s=0):=by
 unfold Lib.idxOfS bN;by_cases h1:s=nK
 ·left;subst h1;exact⟨rfl,rfl⟩
 by_cases h2:s=kNet
 ·right;left;subst h2;exact⟨rfl,rfl⟩
 by_cases h3:s=nL
 ·right;right;left;subst h3;exact⟨rfl,rfl⟩
 by_cases h4:s=jR
 ·right;right;right;left;subst h4;exact⟨rfl,rfl⟩
 right;right;right;right;refine⟨?_,by rw[if_neg h1,if_neg h2,if_neg h3,if_neg h4]⟩;simp only[Lib.idxFromS,if_neg (Ne.symm h1),if_neg (Ne.symm h2),if_neg (Ne.symm h3),if_neg (Ne.symm h4)]
theorem effCells(w:World):∀j,j<bG.length->(w.alloc (.cells (bG.map Value.string).toArray 9)).cell? ⟨w.heap.size,0+j,none⟩=some (.string (bG.getD j ByteArray.empty)):=by
 intro j hj;rw[cell_of_row _ w.heap.size (0+j) _ _ _ (bY w _),Nat.zero_add]
 match j,hj with
 |0,_=>rfl
 |1,_=>rfl
 |2,_=>rfl
 |3,_=>rfl
theorem fieldsEff(w:World)(hs:Lib.TabIs Tryz.prog w "strings.asciiSpace" .u8 Lib.asciiSpaceTab):Calls Tryz.prog 153 #[.string effectB] w fun e w'=>e=.returned (.slice (some ⟨w.heap.size,0,none⟩) 4 4)/\w'=w.alloc (.cells (bG.map Value.string).toArray 9):=by
 have h:=Tryz.strings_Fields_laid effectB w R0 effAscii hs;rw[effLen,effFields] at h;exact h
theorem iS(s:bA)(w:World)(hs:Lib.TabIs Tryz.prog w "strings.asciiSpace" .u8 Lib.asciiSpaceTab):
  Calls Tryz.prog 154 #[.string s] w fun e w'=>e=.returned (.int .i64 (bN s))/\Below w.heap.size w w':=by
 have HF:=zh (fieldsEff w hs);have HI:=zh (Tryz.slices_Index_string w.heap.size 0 4 4 bG s (w.alloc (.cells (bG.map Value.string).toArray 9)) (Nat.le_refl _) R0 (effCells w));have HB:=zh (aB w (.cells (bG.map Value.string).toArray 9));rw[show bG.take 4=bG from rfl] at HI;have hb:=bitOf_idx s;generalize w.alloc (.cells (bG.map Value.string).toArray 9)=w1 at HF HI HB;generalize Lib.idxOfS bG s=q at HI hb;generalize bN s=r at hb ⊢;clear hs;rcases hb with⟨rfl,rfl⟩|⟨rfl,rfl⟩|⟨rfl,rfl⟩|⟨rfl,rfl⟩|⟨rfl,rfl⟩
 all_goals go_enter Tryz.func154,Tryz.ntmps154
 all_goals go_wp2_with(first|(go_at_call 153;refine HF.out.mono ?_;rintro e w2 ⟨rfl,rfl⟩)|(go_at_call 201;refine HI.out.mono ?_;rintro e w2 ⟨rfl,rfl⟩))
 all_goals go_ret
 all_goals exact⟨rfl,HB.out⟩
theorem more_any(p:Prs)(w:World)(i:Nat)(N:Nat->Prop)(t:Ty)(k:Int)(vf:Value)(s:bA)(h:p.At w i)(ht:gB N w t [.int .i64 k,vf])(tX:aZ t<=9000000000000000000):
  Calls Tryz.prog 184 #[.pointer (some ⟨p.pb,0,none⟩),.agg #[.int .i64 k,vf],.string s] w (Ran p.S w (lE p.l i t s) fun b j e w'=>e=.returned (.bool b)/\p.At w' j):=by
 have HA:=zh h;have HL:=zh (fun W(hW:Below w.heap.size w W)=>levels_any _ t N k vf W (Nat.le_refl _) tX (dM _ _ _ _ _ _ (aQ.later hW) ht));have HI:=zh (fun W(hW:p.At W i)=>gJ p W i aY hW);have HE:=zh (fun W f s(hW:p.At W i)=>end_any p W i f s hW);have HM:Hid (lE p.l i t s=if isP p.l i aY then(kL p.l i (decide (aZ t<=4)) aY).bnd fun _ j=>.ok (false,j) else(kL p.l i (decide (aZ t<=4)) s).bnd fun _ j=>.ok (true,j)):=zh rfl
 have hvf:∃a n c,vf=.slice a n c:=by
  cases t;rw[fE] at ht;obtain⟨v,e,a,c,rfl,-⟩:=ht;cases e;exact⟨_,_,_,rfl⟩
 obtain⟨a,n,c,rfl⟩:=hvf;clear h ht tX;have hdec:decide ((aZ t:Int)<=4)=decide (aZ t<=4):=SP;have HD:=zh hdec;clear hdec;generalize aZ t=lv at HL HM HD;generalize isP p.l i aY=q at HI HM
 cases q with
 |true=>
  exact PW
 |false=>
  exact PW
def posOf(w:World)(pb:Nat):Nat:=match w.cell? ⟨pb,1,none⟩ with
 |some (.int _ n)=>n.toNat
 |_=>0
theorem Prs.At.pos{p:Prs}{w:World}{i:Nat}(h:p.At w i):posOf w p.pb=i:=by unfold posOf;rw[h.box1];simp
theorem bx{w:World}{b:Nat}{cs:Array Value}{t:TypeId}(h:w.heap[b]? =some (.cells cs t))(i:Nat){u:Value}(hu:cs[i]? =some u):w.cell? ⟨b,i,none⟩=some u/\w.frozen? ⟨b,i,none⟩=false:=by
 constructor<;>simp[World.cell?,World.frozen?,h,hu]
theorem PR.bnd_bad{α β:Type}{m:PR α}{k:α->Nat->PR β}{x:Int×Int}(h:m=.error x):m.bnd k=.error x:=by rw[h];rfl
theorem PR.bnd_ok{α β:Type}{m:PR α}{k:α->Nat->PR β}{a:α}{j:Nat}(h:m=.ok (a,j)):m.bnd k=k a j:=by rw[h];rfl
theorem PR.of_bnd{α β:Type}{m:PR α}{k:α->Nat->PR β}{b:β}{j:Nat}(h:m.bnd k=.ok (b,j)):∃a i,m=.ok (a,i)/\k a i=.ok (b,j):=by
 unfold PR.bnd at h;split at h
 ·cases h
 exact⟨_,_,rfl,h⟩
section
variable {l:List Tok}
theorem cX{i j:Nat}{s:bA}(h:dD l i s=.ok ((),j)):j=i+1/\isP l i s=true:=by
 unfold dD at h;split at h
 ·cases h;exact⟨rfl,‹_›⟩
 cases h
theorem endP_ok{i j:Nat}{f:Bool}{s:bA}(h:kL l i f s=.ok ((),j)):j=i+1:=by
 unfold kL at h;split at h
 ·split at h
  ·cases h;rfl
  cases h
 cases h
theorem gD{i j:Nat}{a:bA}(h:fC l i=.ok (a,j)):j=i+1:=by
 unfold fC at h;split at h
 ·cases h;rfl
 cases h
theorem laterP_ok{i j:Nat}{a than:bA}{any:Bool}(h:eC l i than any=.ok (a,j)):j=i+1:=by
 unfold eC at h;split at h
 ·split at h
  ·cases h
  split at h
  ·cases h
  cases h;rfl
 cases h
theorem pE{i j:Nat}{a:bA}{known:bA->Bool}(h:fO l i known=.ok (a,j)):j=i+1:=by
 unfold fO at h;split at h
 ·split at h
  ·cases h
  cases h;rfl
 cases h
theorem oZ{i j:Nat}{t:Ty}{s:bA}{b:Bool}(h:lE l i t s=.ok (b,j)):j=i+1:=by
 unfold lE at h;split at h
 ·obtain⟨a,k,h1,h2⟩:=PR.of_bnd h;have:=endP_ok h1;cases h2;exact this
 obtain⟨a,k,h1,h2⟩:=PR.of_bnd h;have:=endP_ok h1;cases h2;exact this
theorem oK{rec:Nat->PR Ty}{D:Nat}(hr:∀i t j,rec i=.ok (t,j)->aZ t<=D):∀(F:Nat)(fs:List Fld)(i:Nat)(t:Ty)(j:Nat),cH fs<=D->dE l rec F fs i=.ok (t,j)->aZ t<=D+1
 |0,fs,i,t,j,hf,h=>by
  unfold dE at h;cases h;rw[aZ];omega
 |F+1,fs,i,t,j,hf,h=>by
  unfold dE at h;obtain⟨_,_,-,h⟩:=PR.of_bnd h;obtain⟨s,j1,-,h⟩:=PR.of_bnd h;obtain⟨u,j2,hu,h⟩:=PR.of_bnd h;obtain⟨q,j3,-,h⟩:=PR.of_bnd h;have hu2:=hr _ _ _ hu
  have hn:cH (fs++[(s,u)])<=D:=by
   have h1:=oA (fs++[(s,u)]) fs.length (s,u) R2;rw[List.take_of_length_le R2,List.take_left] at h1;rw[h1];exact Nat.max_le.2 ⟨hf,hu2⟩
  split at h
  ·cases h;rw[aZ];omega
  exact oK hr F _ _ t j hn h
theorem lR:∀(f i:Nat)(t:Ty)(j:Nat),eF l f i=.ok (t,j)->aZ t<=f
 |0,i,t,j,h=>by unfold eF at h;cases h
 |f+1,i,t,j,h=>by
  unfold eF at h;split at h
  ·cases h;simp[aZ,cH]
  split at h
  ·cases h;simp[aZ,cH]
  obtain⟨_,j1,-,h⟩:=PR.of_bnd h;split at h
  ·cases h;simp[aZ,cH]
  exact oK (fun i t j h=>lR f i t j h) _ _ _ t j (by simp[cH]) h
def iT(fs:List Fld):bA:=(fs.getLast?.map (·.1)).getD noB
theorem gN{rec:Nat->PR Ty}{F:Nat}{fs:List Fld}{i:Nat}(hq:cG l i=true):dE l rec (F+1) fs i=
  (eH l i fs.length 8).bnd fun _ _=>(eC l i (iT fs) (decide (0<fs.length))).bnd fun s j=>(rec j).bnd fun t j2=>(lE l j2 t cL).bnd fun q j3=>
   if q then .ok (.mk 2 (fs++[(s,t)]),j3) else dE l rec F (fs++[(s,t)]) j3:=by
 rw[dE,if_pos hq];rfl
theorem oJ{rec:Nat->PR Ty}{F:Nat}{fs:List Fld}{i:Nat}(hq:cG l i=false):dE l rec (F+1) fs i=.error ((aI l i).pos,11):=by
 rw[dE,if_neg UJ];unfold eC;rw[hq];rfl
end
end Go.Proofs.YtiionicikdnnpaaGreatDoor
namespace Go.Proofs.YtiionicikdnnpaaGreatDoor
open Go.RowKit
theorem P5{p:Prop}(h:p:=by
 rename_i qQ;subst qQ;have hR:=qI.out.trans ((PR.bnd_ok DI.out).trans ((PR.bnd_ok qW.out).trans ((PR.bnd_ok qF).trans (if_neg R2))));have MW:=oZ qF;have K9:=rO.lt;obtain⟨F',tQ⟩:∃F',F=F'+1:=⟨F-1,RY⟩;have HR':=zh hR;have IU:=zh rO;clear hR rO;go_roundw
 case rel=>
  subst tQ;exact⟨j3,F',_,_,_,zh ⟨xE.out,IU.out,HR'.out,RY,RY⟩⟩
 case measure=>
  rw[IU.out.pos,HT.out.2.1.pos];omega):p:=h
theorem QF{p:Prop}(h:p:=by
 refine⟨_,rfl,hs,?_⟩;refine dM.wide (dM.off sT o9 (fun b hb hn=>by have hn:(w6.alloc (cA a 0 none 0 0)).heap.size<=b:=hn;omega)) fun b hn _=>?_;have hn:(w6.alloc (cA a 0 none 0 0)).heap.size<=b:=hn
 exact⟨RY,fun e=>by have:=qA b e;omega⟩):p:=h
theorem RA{p:Prop}(h:p:=by
 refine oI (N:=bO B) hR RY xE.out.off rO HS.out ?_ (fun b hb=>U1);rw[fE]
 exact⟨_,rfl,xE.out.acc.row aT⟩):p:=h
theorem RL{p:Prop}(h:p:=by
 exact⟨rfl,Ran.bad' (qI.out.trans ((PR.bnd_ok DI.out).trans ((PR.bnd_ok qW.out).trans (PR.bnd_bad qF)))) xE.out.off⟩):p:=h
theorem RR{p:Prop}(h:p:=by
 exact⟨rfl,Ran.bad' (by have e:=(jA uO).symm.trans hx;cases e;exact HT.out.2.2.1.trans (oJ uO)) DA.out.off⟩):p:=h
theorem Off.fresh{S:Nat->Prop}{w w':World}{B:Nat}(h:Off (fun k=>S k\/B<=k) w w')(hB:w.heap.size<=B):Off S w w':=
 ⟨h.os,h.tape,h.output,h.size,fun k hk hn=>h.block k hk (fun hs=>hs.elim hn (fun hb=>RY))⟩
theorem Off.or{S:Nat->Prop}{w w':World}(B:Nat)(h:Off S w w'):Off (fun k=>S k\/B<=k) w w':=h.mono fun _ h=>.inl h
theorem encT_slice{N:Nat->Prop}{w:World}{t:Ty}{k:Int}{vf:Value}(h:gB N w t [.int .i64 k,vf]):∃a n c,vf=.slice a n c:=by
 cases t;rw[fE] at h;obtain⟨v,e,a,c,rfl,-⟩:=h;cases e;exact⟨_,_,_,rfl⟩
theorem fldInfo:(Tryz.prog.info? 105).map (fun i=>(i.zero,i.size,i.bytes))=some (some (.agg #[.string ByteArray.empty,.int .i64 0,.slice none 0 0]),3,48):=RZ
theorem bxT2{w:World}{b:Nat}{x y:Value}{t:TypeId}(h:w.heap[b]? =some (.cells #[x,y] t)):w.cell? ⟨b,0,none⟩=some x/\w.cell? ⟨b,1,none⟩=some y/\w.frozen? ⟨b,0,none⟩=false/\w.frozen? ⟨b,1,none⟩=false:=
 ⟨(bx h 0 rfl).1,(bx h 1 rfl).1,(bx h 0 (u:=x) rfl).2,(bx h 1 (u:=y) rfl).2⟩
theorem bxT3{w:World}{b:Nat}{x y z:Value}{t:TypeId}(h:w.heap[b]? =some (.cells #[x,y,z] t)):w.cell? ⟨b,0,none⟩=some x/\w.cell? ⟨b,1,none⟩=some y/\w.cell? ⟨b,2,none⟩=some z/\w.frozen? ⟨b,0,none⟩=false/\w.frozen? ⟨b,1,none⟩=false/\w.frozen? ⟨b,2,none⟩=false:=
 ⟨(bx h 0 rfl).1,(bx h 1 rfl).1,(bx h 2 rfl).1,(bx h 0 (u:=x) rfl).2,(bx h 1 (u:=y) rfl).2,(bx h 2 (u:=z) rfl).2⟩
def TypedOk(p:Prs)(f:Nat):Prop:=∀(i:Nat)(w:World),p.At w i->p.l.length<f+i->Calls Tryz.prog 115 #[.pointer (some ⟨p.pb,0,none⟩)] w
 (Ran p.S w (eF p.l f i) fun t j e w'=>∃k sa sn sc,e=.returned (.agg #[.int .i64 k,.slice sa sn sc])/\gB (bO w.heap.size) w' t [.int .i64 k,.slice sa sn sc]/\p.At w' j/\i<j)
structure TyL (p:Prs) (W:World) (b3 B:Nat) (fs:List Fld) (css:List (List Value)) (v:Value) (wr:World):Prop where
 off:Off p.S W wr
 res:wr.heap[W.heap.size]? =some (hO 0 none 0 0)
 loc:wr.heap[b3]? =some (.cells #[.int .i64 2,v] 45)
 acc:Gro 3 105 fH B fs css v wr
 b3:W.heap.size<b3/\b3<B
 pb:p.pb<W.heap.size
 few:fs.length<=8
 val:(fs=[]/\v=.slice none 0 0)\/∃m g cap,fs.length=m+1/\v=.slice (some ⟨g,0,none⟩) (m+1) cap
section
variable {p:Prs} {W wr w':World} {b3 B:Nat} {fs:List Fld} {css:List (List Value)} {v:Value}
theorem TyL.next(h:TyL p W b3 B fs css v wr)(ho:Off p.S wr w'):TyL p W b3 B fs css v w':=
 ⟨h.off.trans ho,ho.heap (fun e=>by have:=h.pb;have e:W.heap.size=p.pb:=e;omega) h.res,ho.heap (fun e=>by have:=h.pb;have:=h.b3;have e:b3=p.pb:=e;omega) h.loc,
  h.acc.stays aT (dC.of_off ho fun b hb=>.inl (by have:=h.pb;have:=h.b3;have hb:b=p.pb:=hb;omega)),h.b3,h.pb,h.few,h.val⟩
theorem TyL.last(h:TyL p W b3 B fs css v wr){m g cap:Nat}(hm:fs.length=m+1)(hv:v=.slice (some ⟨g,0,none⟩) (m+1) cap):wr.cell? ⟨g,m*3,none⟩=some (.string (iT fs)):=by
 obtain⟨a,c,e,-,-,h3⟩:=h.acc.row aT;rw[hv] at e;obtain⟨b,o,ha,-,hc⟩:=h3 (fun e=>by rw[e] at hm;simp at hm);injection e with e1 e2 e3
 rw[ha] at e1;cases e1;obtain⟨x,hx,-⟩:=getElem?_of_lt (l:=fs) (k:=m) RY;obtain⟨cs,⟨ct,rfl,-⟩,-,hj⟩:=hc m x hx;have:=hj 0 (.string x.1) rfl
 have hl:iT fs=x.1:=by
  unfold iT;rw[List.getLast?_eq_getElem?,hm,show m+1-1=m by omega,hx];rfl
 rw[hl];simpa using this
end
theorem oI{p:Prs}{W w:World}{r:PR Ty}{i j:Nat}{t:Ty}{k:Int}{sa:Option Addr}{sn sc:Nat}{N:Nat->Prop}(hr:r=.ok (t,j))(AU:i<j)(ho:Off p.S W w)(ha:p.At w j)(hW:p.At W i)(ht:gB N w t [.int .i64 k,.slice sa sn sc])(hN:∀b,N b->W.heap.size<b):
  Ran p.S W r (fun t j e w'=>∃k sa sn sc,e=.returned (.agg #[.int .i64 k,.slice sa sn sc])/\gB (bO W.heap.size) w' t [.int .i64 k,.slice sa sn sc]/\p.At w' j/\i<j) (.returned (.agg #[.int .i64 k,.slice sa sn sc])) ((w.setCell ⟨W.heap.size,0,none⟩ (.int .i64 k)).setCell ⟨W.heap.size,1,none⟩ (.slice sa sn sc)):=by
 have pU:Off (fun b=>b=W.heap.size) w ((w.setCell ⟨W.heap.size,0,none⟩ (.int .i64 k)).setCell ⟨W.heap.size,1,none⟩ (.slice sa sn sc)):=(Off.setCell (S:=fun b=>b=W.heap.size) w rfl).trans (Off.setCell (S:=fun b=>b=W.heap.size) _ rfl);refine Ran.good hr ⟨k,sa,sn,sc,rfl,dM _ _ _ _ _ _ (fun b hb _=>⟨Nat.le_of_lt (hN b hb),fun o v hv=>pU.cell (fun e=>by have:=hN b hb;omega) hv⟩) ht,?_,AU⟩ ?_
 ·exact ha.off pU (fun e=>by have:=hW.blt;omega) (fun e=>by have:=jK (hW.toks i _ hW.tok).1.1;omega) (fun k hk e=>by have:=hW.glob.big;omega)
 exact Off.fresh ((ho.or _).trans (pU.mono fun b hb=>.inr (Nat.le_of_eq hb.symm))) (Nat.le_refl _)
theorem Prs.At.above{p:Prs}{W w w':World}{i j:Nat}(hW:p.At W i)(h:p.At w j)(ho:Off (fun k=>W.heap.size<=k) w w'):p.At w' j:=
 h.off ho (fun e=>by have:=hW.blt;omega) (fun e=>by have:=jK (hW.toks i _ hW.tok).1.1;omega) (fun k hk e=>by have:=hW.glob.big;omega)
theorem fM.off{α:Type}{enc:(Nat->Prop)->World->α->List Value->Prop}(he:fM enc){S N:Nat->Prop}{w w':World}{x:α}{cs:List Value}(h:enc N w x cs)(ho:Off S w w')(hS:∀b,S b->¬N b):enc N w' x cs:=
 he _ _ _ _ _ _ (fun b hb _=>⟨hb,fun _ _ hv=>ho.cell (fun hs=>hS b hs hb) hv⟩) h
theorem fM.wide{α:Type}{enc:(Nat->Prop)->World->α->List Value->Prop}(he:fM enc){N N':Nat->Prop}{w:World}{x:α}{cs:List Value}(h:enc N w x cs)(hN:∀b,N b->b<w.heap.size->N' b):enc N' w x cs:=
 he _ _ _ _ _ _ (fun b hb hl=>⟨hN b hb hl,fun _ _ hv=>hv⟩) h
theorem TyL.added{p:Prs}{W w9 rB:World}{b3 B g cap:Nat}{fs:List Fld}{css:List (List Value)}{v:Value}{x:Fld}{news:List Value}(h:TyL p W b3 B fs css v w9)(hfew:fs.length<8)(hx:fH (nD B v) w9 x news)(hl:news.length=3)
  (pR:rB.ownsRow B 105 3 (.slice (some ⟨g,0,none⟩) (fs.length+1) cap) (fs.length+1) (css.flatten++news)) (pM:w9.grownBy rB v.ownBlock) (qV:v.ownBlock=some g\/g=w9.heap.size):
  TyL p W b3 B (fs++[x]) (css++[news]) (.slice (some ⟨g,0,none⟩) (fs.length+1) cap) (rB.setCell ⟨b3,1,none⟩ (.slice (some ⟨g,0,none⟩) (fs.length+1) cap)):=by
 have hA:=h.acc.added aT hx hl pR pM qV;have tX:=h.acc.big;have hb:=h.b3;have qA:=h.acc.lt;have o1:Off (fun k=>B<=k) w9 rB:=⟨pM.os,pM.tape,pM.output,pM.size,fun k hk hn=>pM.block k hk (fun e=>hn (qA k e.symm).1)⟩;have o2:Off (fun k=>k=b3) rB (rB.setCell ⟨b3,1,none⟩ (.slice (some ⟨g,0,none⟩) (fs.length+1) cap)):=Off.setCell (S:=fun k=>k=b3) rB rfl;refine⟨?_,?_,?_,hA.stays aT (dC.of_off o2 fun b pN=>.inl RY),hb,h.pb,SX,.inr ⟨fs.length,g,cap,R2,rfl⟩⟩
 ·exact Off.fresh ((h.off.or _).trans ((o1.mono fun k hk=>.inr RY).trans (o2.mono fun k hk=>.inr RY))) (Nat.le_refl _)
 ·exact o2.heap RY (o1.heap RY h.res)
 rw[aU (o1.heap RY h.loc)];rfl
theorem TyL.step{p:Prs}{W w6 w7 rB:World}{b3 B g cap n1 i0 j2:Nat}{fs:List Fld}{css:List (List Value)}{v:Value}{a:bA}{t:Ty}{k:Int}{sa:Option Addr}{sn sc:Nat}(hW:p.At W i0)(h6:TyL p W b3 B fs css v w6)(hfew:fs.length<8)
  (qO:Off p.S (w6.alloc (cA a 0 none 0 0)) w7) (rX:p.At w7 j2) (sT:gB (bO (w6.alloc (cA a 0 none 0 0)).heap.size) w7 t [.int .i64 k,.slice sa sn sc]) (hs:a.size<=8000)
  (pR:rB.ownsRow B 105 3 (.slice (some ⟨g,0,none⟩) n1 cap) n1 (css.flatten++[.string a,.int .i64 k,.slice sa sn sc])) (hn:n1=fs.length+1) (pM:(((w7.setCell ⟨w6.heap.size,1,none⟩ (.int .i64 k)).setCell ⟨w6.heap.size,2,none⟩ (.slice sa sn sc)).alloc (cA a k sa sn sc)).grownBy rB v.ownBlock) (qV:v.ownBlock=some g\/g=w7.heap.size+1):
  rB.heap[b3]? =some (.cells #[.int .i64 2,v] 45)/\TyL p W b3 B (fs++[(a,t)]) (css++[[.string a,.int .i64 k,.slice sa sn sc]]) (.slice (some ⟨g,0,none⟩) n1 cap) (rB.setCell ⟨b3,1,none⟩ (.slice (some ⟨g,0,none⟩) n1 cap))/\
  p.At (rB.setCell ⟨b3,1,none⟩ (.slice (some ⟨g,0,none⟩) n1 cap)) j2/\gB (bO (w6.heap.size+1)) (rB.setCell ⟨b3,1,none⟩ (.slice (some ⟨g,0,none⟩) n1 cap)) t [.int .i64 k,.slice sa sn sc]/\
  (rB.setCell ⟨b3,1,none⟩ (.slice (some ⟨g,0,none⟩) n1 cap)).heap[w6.heap.size]? =some (cA a k sa sn sc):=by
 subst hn;have hb:=h6.b3;have tX:=h6.acc.big;have tY:=h6.pb;have qA:=h6.acc.lt;have sV:(w6.alloc (cA a 0 none 0 0)).heap.size=w6.heap.size+1:=R2;have o7:Off p.S w6 w7:=(Ba (aB w6 (cA a 0 none 0 0))).trans qO;have ET:w6.heap.size+1<=w7.heap.size:=by have:=qO.size;omega
 have o8:Off (fun b=>b=w6.heap.size) w7 ((w7.setCell ⟨w6.heap.size,1,none⟩ (.int .i64 k)).setCell ⟨w6.heap.size,2,none⟩ (.slice sa sn sc)):=(Off.setCell (S:=fun b=>b=w6.heap.size) w7 rfl).trans (Off.setCell (S:=fun b=>b=w6.heap.size) _ rfl);have o9:Off (fun b=>b=w6.heap.size) w7 (((w7.setCell ⟨w6.heap.size,1,none⟩ (.int .i64 k)).setCell ⟨w6.heap.size,2,none⟩ (.slice sa sn sc)).alloc (cA a k sa sn sc)):=o8.trans (Ba (aB _ _));have O9:Off p.S w6 (((w7.setCell ⟨w6.heap.size,1,none⟩ (.int .i64 k)).setCell ⟨w6.heap.size,2,none⟩ (.slice sa sn sc)).alloc (cA a k sa sn sc)):=Off.fresh ((o7.or w6.heap.size).trans (o9.mono fun b hb=>.inr RY)) (Nat.le_refl _);have h9:=h6.next O9
 have hx:fH (nD B v) (((w7.setCell ⟨w6.heap.size,1,none⟩ (.int .i64 k)).setCell ⟨w6.heap.size,2,none⟩ (.slice sa sn sc)).alloc (cA a k sa sn sc)) (a,t) [.string a,.int .i64 k,.slice sa sn sc]:=by
  exact QF
 have AC:(((w7.setCell ⟨w6.heap.size,1,none⟩ (.int .i64 k)).setCell ⟨w6.heap.size,2,none⟩ (.slice sa sn sc)).alloc (cA a k sa sn sc)).heap.size=w7.heap.size+1:=R2;have hT:=h9.added hfew hx rfl pR pM U7;have EX:w7.heap[w6.heap.size]? =some (cA a 0 none 0 0):=qO.heap (fun e=>by have e:w6.heap.size=p.pb:=e;omega) (bY w6 (cA a 0 none 0 0))
 have hf8:(((w7.setCell ⟨w6.heap.size,1,none⟩ (.int .i64 k)).setCell ⟨w6.heap.size,2,none⟩ (.slice sa sn sc)).alloc (cA a k sa sn sc)).heap[w6.heap.size]? =some (cA a k sa sn sc):=by
  refine aC (aB _ _) ?_;rw[aU (aU EX _) _];rfl
 have xY:Off (fun b=>B<=b/\b<w6.heap.size) (((w7.setCell ⟨w6.heap.size,1,none⟩ (.int .i64 k)).setCell ⟨w6.heap.size,2,none⟩ (.slice sa sn sc)).alloc (cA a k sa sn sc)) rB:=⟨pM.os,pM.tape,pM.output,pM.size,fun b hb hn=>pM.block b hb (fun e=>hn (by have:=qA b e.symm;exact this))⟩;have JG:Off (fun b=>b=b3) rB (rB.setCell ⟨b3,1,none⟩ (.slice (some ⟨g,0,none⟩) (fs.length+1) cap)):=Off.setCell (S:=fun b=>b=b3) rB rfl;refine⟨xY.heap RY h9.loc,hT,?_,?_,?_⟩
 ·exact hW.above rX ((o9.mono fun b hb=>RY).trans ((xY.mono fun b hb=>RY).trans (JG.mono fun b hb=>RY)))
 ·rw[sV] at sT;exact dM.off sT ((o9.mono (S':=fun b=>b<=w6.heap.size) fun b hb=>RY).trans ((xY.mono fun b hb=>RY).trans (JG.mono fun b hb=>RY))) (fun b hb hn=>by have hn:w6.heap.size+1<=b:=hn;omega)
 exact JG.heap RY (xY.heap RY hf8)
theorem jA{l:List Tok}{i:Nat}{than:bA}{any:Bool}(hq:cG l i=false):eC l i than any=.error ((aI l i).pos,11):=by unfold eC;rw[hq];rfl
theorem Ran.bad'{α:Type}{S:Nat->Prop}{w w':World}{r:PR α}{V:α->Nat->Ending->World->Prop}{x:Int×Int}(hr:r=.error x)(ho:Off S w w'):
  Ran S w r V (.panicked [{v:=.iface 144 (.agg #[.int .i64 x.1,.int .i64 x.2]),recovered:=false}]) w':=.inl ⟨x,hr,rfl,ho⟩
theorem typed_int(p:Prs)(f:Nat)(w:World)(i:Nat)(h:p.At w i)(hq:isP p.l i kIntW=true):Calls Tryz.prog 115 #[.pointer (some ⟨p.pb,0,none⟩)] w
  (Ran p.S w (eF p.l (f+1) i) fun t j e w'=>∃k sa sn sc,e=.returned (.agg #[.int .i64 k,.slice sa sn sc])/\gB (bO w.heap.size) w' t [.int .i64 k,.slice sa sn sc]/\p.At w' j/\i<j):=by
 have HR:Hid (eF p.l (f+1) i=.ok (.mk 0 [],i+1)):=zh (by unfold eF;rw[if_pos hq]);have HH:=zh (fY p (w.alloc (hO 0 none 0 0)) i kIntW (h.later (aB _ _)) hq);have HS:=zh h;have HO:=zh (Ba (S:=p.S) (aB w (hO 0 none 0 0)));have HB:=zh (bY w (hO 0 none 0 0));clear h hq;go_enter Tryz.func115,Tryz.ntmps115;go_wp2_with(go_at_call 120;refine HH.out.mono ?_;rintro e w1 ⟨rfl,qP,qE⟩;have pO:=qE.heap TW HB.out;obtain⟨c0,c1,f0,f1⟩:=bxT2 pO);refine bodyPost_ret (v:=.agg #[.int .i64 0,.slice none 0 0]) (by simp[results,Tryz.results115,go_sem,c0,c1]) rfl ?_;refine oI (N:=fun _=>False) HR.out RY (HO.out.trans qE) qP HS.out S9 (fun b hb=>hb.elim)
theorem typed_bool(p:Prs)(f:Nat)(w:World)(i:Nat)(h:p.At w i)(tS:isP p.l i kIntW=false)(hq:isP p.l i kBool=true):Calls Tryz.prog 115 #[.pointer (some ⟨p.pb,0,none⟩)] w
  (Ran p.S w (eF p.l (f+1) i) fun t j e w'=>∃k sa sn sc,e=.returned (.agg #[.int .i64 k,.slice sa sn sc])/\gB (bO w.heap.size) w' t [.int .i64 k,.slice sa sn sc]/\p.At w' j/\i<j):=by
 have HR:Hid (eF p.l (f+1) i=.ok (.mk 1 [],i+1)):=zh (by unfold eF;rw[if_neg (by rw[tS];simp),if_pos hq]);have HH0:=zh (bI p (w.alloc (hO 0 none 0 0)) i kIntW (h.later (aB _ _)) tS);have HH:=zh (fun W(hW:p.At W i)=>fY p W i kBool hW hq);have HS:=zh h;have HO:=zh (Ba (S:=p.S) (aB w (hO 0 none 0 0)));have HB:=zh (bY w (hO 0 none 0 0));clear h hq tS;go_enter Tryz.func115,Tryz.ntmps115;go_wp2_with(first|(go_at_call 120;refine(HH.out w1 qP).mono ?_;rintro e w2 ⟨rfl,qY,pU⟩;have pN:=pU.heap TW pO;obtain⟨c0,c1,f0,f1⟩:=bxT2 pN)|(go_at_call 120;refine HH0.out.mono ?_;rintro e w1 ⟨rfl,qP,qE⟩;have pO:=qE.heap TW HB.out));refine bodyPost_ret (v:=.agg #[.int .i64 1,.slice none 0 0]) (by simp[results,Tryz.results115,go_sem,c0,c1]) rfl ?_;refine oI (N:=fun _=>False) HR.out RY (HO.out.trans (qE.trans pU)) qY HS.out S9 (fun b hb=>hb.elim)
theorem typed_more(p:Prs)(f:Nat)(hf:f<=8010)(uN:TypedOk p f)(w:World)(i:Nat)(h:p.At w i)(sH:p.l.length<f+1+i)(tS:isP p.l i kIntW=false)(hq:isP p.l i kBool=false):Calls Tryz.prog 115 #[.pointer (some ⟨p.pb,0,none⟩)] w
  (Ran p.S w (eF p.l (f+1) i) fun t j e w'=>∃k sa sn sc,e=.returned (.agg #[.int .i64 k,.slice sa sn sc])/\gB (bO w.heap.size) w' t [.int .i64 k,.slice sa sn sc]/\p.At w' j/\i<j):=by
 obtain⟨i0,xS,xN,sG,rU⟩:=info_parts fldInfo;have HR:Hid (eF p.l (f+1) i=(dD p.l i bH).bnd fun _ j=>if isP p.l j cL then .ok (.mk 2 [],j+1) else dE p.l (eF p.l f) (p.l.length+1) [] j):=zh (by rw[eF];rw[if_neg (by rw[tS];simp),if_neg UJ]);have HRec:=zh uN;have HH0:=zh (bI p (w.alloc (hO 0 none 0 0)) i kIntW (h.later (aB _ _)) tS);have HH:=zh (fun W(hW:p.At W i)=>bI p W i kBool hW hq);have LW:=zh (fun W(hW:p.At W i)=>dK p W i bH hW);have HS:=zh h;have HO:=zh (Ba (S:=p.S) (aB w (hO 0 none 0 0)));have HB:=zh (bY w (hO 0 none 0 0));have pQ:w.heap.size≠p.pb:=SF;clear h hq tS uN;go_enter Tryz.func115,Tryz.ntmps115;go_wp2_with(first|(go_at_call 110;refine(LW.out w2 qY).mono ?_;rintro e w3 (⟨x,hx,rfl,qK⟩|⟨⟨⟩,j,hx,⟨rfl,rY⟩,qK⟩))|(go_at_call 120;refine(mN p (w3.alloc (hO 2 none 0 0)) j cL (rY.later (aB _ _))).mono ?_;rintro e w4 ⟨rfl,rR,qD⟩;have hlt3:=rY.blt;have hl4:=zh (qD.heap (by intro e;have e:w3.heap.size=p.pb:=e;omega) (bY w3 (hO 2 none 0 0)));have hr4:=zh (qD.heap pQ (aC (aB w3 (hO 2 none 0 0)) (qK.heap pQ (pU.heap pQ (qE.heap pQ HB.out)))));obtain⟨c0,c1,f0,f1⟩:=bxT2 hl4.out;obtain⟨d0,d1,g0,g1⟩:=bxT2 hr4.out)|(go_at_call 120;refine(HH.out w1 qP).mono ?_;rintro e w2 ⟨rfl,qY,pU⟩)|(go_at_call 120;refine HH0.out.mono ?_;rintro e w1 ⟨rfl,qP,qE⟩))
 ·exact⟨rfl,Ran.bad (HR.out.trans (PR.bnd_bad hx)) (HO.out.trans (qE.trans (pU.trans qK)))⟩
 ·rename_i FE;have hj:j=i+1:=(cX hx).1;rw[if_pos FE] at rR;have sL:Hid (eF p.l (f+1) i=.ok (.mk 2 [],j+1)):=zh (HR.out.trans ((PR.bnd_ok hx).trans (if_pos FE)));refine bodyPost_ret (v:=.agg #[.int .i64 2,.slice none 0 0]) (by simp[results,Tryz.results115,go_sem,d0,d1]) rfl ?_;refine oI (N:=fun _=>False) sL.out RY (HO.out.trans (qE.trans (pU.trans (qK.trans ((Ba (aB w3 (hO 2 none 0 0))).trans qD))))) rR HS.out S9 (fun b hb=>hb.elim)
 rename_i FE;have hj:j=i+1:=(cX hx).1;rw[if_neg (by rw[FE];simp)] at rR;have sL:Hid (eF p.l (f+1) i=dE p.l (eF p.l f) (p.l.length+1) [] j):=zh (HR.out.trans ((PR.bnd_ok hx).trans (if_neg (by rw[FE];simp))));have D1:=zh (HO.out.trans (qE.trans (pU.trans (qK.trans ((Ba (aB w3 (hO 2 none 0 0))).trans qD)))));have hsz3:w.heap.size<w3.heap.size:=(Array.getElem?_eq_some_iff.1 (qK.heap pQ (pU.heap pQ (qE.heap pQ HB.out)))).1;have hsz4:w3.heap.size<w4.heap.size:=(Array.getElem?_eq_some_iff.1 hl4.out).1;have HJ:=zh hj;clear hj;have KW:=zh rR;have HTy:Hid (TyL p w w3.heap.size w4.heap.size [] [] (.slice none 0 0) w4):=zh ⟨D1.out,hr4.out,hl4.out,Gro.first _ _ _ _,⟨hsz3,hsz4⟩,HS.out.blt,Nat.zero_le _,.inl ⟨rfl,rfl⟩⟩;clear qE pU qK qD qP qY rY rR hl4 hr4 D1 HR FE c0 c1 f0 f1 d0 d1 g0 g1 HH0 HH LW HB HO hx;generalize w3.heap.size=b3 at *;generalize w4.heap.size=B at *;go_loopw [4] (fun s4 wr=>∃(q F:Nat)(fs:List Fld)(css:List (List Value))(v:Value),Hid (TyL p w b3 B fs css v wr/\p.At wr q/\eF p.l (f+1) i=dE p.l (eF p.l f) (F+1) fs q/\p.l.length<=F+q/\i<q)) (fun _ wr=>p.l.length-posOf wr p.pb)
 case atStart=>exact⟨j,p.l.length,[],[],_,zh ⟨HTy.out,KW.out,sL.out,RY,by have:=HJ.out;omega⟩⟩
 case round=>
  obtain⟨q,F,fs,css,v,HT⟩:=hrel;rename World=>wr
  have qG:=HT.out.2.1.len;have FE:=HT.out.2.2.2;rcases HT.out.1.val with⟨rfl,rfl⟩|⟨m,g,cap,hm,rfl⟩
  ·cases uO:cG p.l q with
   |false=>
    as_aux_lemma=>
     go_wp2_with(first|(go_at_call 182;refine(iC p wr q HT.out.2.1).mono ?_;rintro e w5 ⟨rfl,hb5⟩;rw[uO];have ER:=zh (HT.out.2.1.later hb5);have DU:=zh (HT.out.1.next (Ba hb5));obtain⟨c0,c1,f0,f1⟩:=bxT2 DU.out.loc)|(go_at_call 183;refine(mT p w5 q ⟨#[]⟩ false ER.out).mono ?_;rintro e w6 (⟨x,hx,rfl,qR⟩|⟨a,j1,hx,⟨rfl,tG,EV⟩,qR⟩)<;>have DA:=zh (DU.out.next qR)))
     ·exact RR
     rw[jA uO] at hx;cases hx
   |true=>
    as_aux_lemma=>
     go_wp2_with(first|(go_at_call 182;refine(iC p wr q HT.out.2.1).mono ?_;rintro e w5 ⟨rfl,hb5⟩;rw[uO];have ER:=zh (HT.out.2.1.later hb5);have DU:=zh (HT.out.1.next (Ba hb5));obtain⟨c0,c1,f0,f1⟩:=bxT2 DU.out.loc)|(go_at_call 49;refine(fZ p w5 q _ _ ER.out).mono ?_;rintro e w5' (⟨CZ,rfl,rfl⟩|⟨CZ,rfl,JX⟩)<;>first|(cases CZ;done)|skip)|(go_at_call 183;refine(mT p w5 q ⟨#[]⟩ false ER.out).mono ?_;rintro e w6 (⟨x,hx,rfl,qR⟩|⟨a,j1,hx,⟨rfl,tG,EV⟩,qR⟩)<;>have DA:=zh (DU.out.next qR))|(go_at_call 115;have rW:=laterP_ok hx;refine(HRec.out j1 (w6.alloc (cA a 0 none 0 0)) (tG.later (aB _ _)) RY).mono ?_;rintro e w7 (⟨x2,qB,rfl,qO⟩|⟨t,j2,qB,⟨k,sa,sn,sc,rfl,sT,rX,JR⟩,qO⟩)<;>have EX:=zh (qO.heap (fun e=>UC) (bY w6 (cA a 0 none 0 0)))<;>have NP:=zh (DA.out.next ((Ba (aB w6 (cA a 0 none 0 0))).trans qO))<;>have qZ:=DA.out.acc.big<;>have hn6:¬b3=w6.heap.size:=RY<;>have hn6':¬w6.heap.size=b3:=RY<;>obtain⟨c0',wG,f0',f1'⟩:=bxT2 NP.out.loc<;>obtain⟨d0,d1,d2,e0,e1,e2⟩:=bxT3 EX.out)|(at_builtin;have O9:Off p.S w6 (((w7.setCell ⟨w6.heap.size,1,none⟩ (.int .i64 k)).setCell ⟨w6.heap.size,2,none⟩ (.slice sa sn sc)).alloc (cA a k sa sn sc)):=Off.fresh (((Ba (S:=p.S) (aB w6 (cA a 0 none 0 0))).trans qO).or w6.heap.size |>.trans (((Off.setCell (S:=fun b=>p.S b\/w6.heap.size<=b) w7 (.inr (Nat.le_refl _))).trans (Off.setCell (S:=fun b=>p.S b\/w6.heap.size<=b) _ (.inr (Nat.le_refl _)))).trans (Ba (aB _ _)))) (Nat.le_refl _);have NO:=zh (DA.out.next O9);have sB:=NO.out.acc.big;have sA:=NO.out.acc.own;refine wpList_append_lies _ rfl _ _ 24 rfl B 105 i0 (.agg #[.string ByteArray.empty,.int .i64 0,.slice none 0 0]) 3 48 Tryz.underlying24 xS xN sG rU rfl RY (.slice none 0 0) 0 css.flatten TH (by simpa using sA) ⟨w7.heap.size,0,none⟩ 1 1 [.string a,.int .i64 k,.slice sa sn sc] TH rfl (World.news_of_block (cs:=#[.string a,.int .i64 k,.slice sa sn sc]) (t:=105) (fr:=(0,0)) TL) SG RY SH RY (by simpa using sB) (w7.heap.size+1) R2 ?_))
     ·have qI:=zh (HT.out.2.2.1.trans ((gN uO).trans (PR.bnd_ok (if_pos (show 0<8 by decide)))));have DI:Hid (eC p.l q (iT ([]:List Fld)) (decide (0<([]:List Fld).length))=_):=zh hx;exact⟨rfl,Ran.bad' (qI.out.trans (PR.bnd_bad DI.out)) DA.out.off⟩
     ·have qI:=zh (HT.out.2.2.1.trans ((gN uO).trans (PR.bnd_ok (if_pos (show 0<8 by decide)))));have DI:Hid (eC p.l q (iT ([]:List Fld)) (decide (0<([]:List Fld).length))=_):=zh hx;exact⟨rfl,Ran.bad' (qI.out.trans ((PR.bnd_ok DI.out).trans (PR.bnd_bad qB))) NP.out.off⟩
     have qI:=zh (HT.out.2.2.1.trans ((gN uO).trans (PR.bnd_ok (if_pos (show 0<8 by decide)))));have DI:Hid (eC p.l q (iT ([]:List Fld)) (decide (0<([]:List Fld).length))=_):=zh hx;intro g' cap' rB pR pM qV _;obtain⟨BP,GU,tP,A8,GB⟩:=DA.out.step HS.out R0 qO rX sT EV pR rfl pM qV;obtain⟨m0,m1,n0,n1⟩:=bxT2 BP;obtain⟨q0,q1,q2,r0,r1,r2⟩:=bxT3 GB;have NR:=zh GU;have qW:=zh qB;have HMr:=zh (more_any p _ j2 _ t k _ cL tP A8 (Nat.le_trans (lR f _ t j2 qB) RY));clear pR pM qV BP GU tP A8 GB sT rX qO EX NP O9 NO sB sA c0' wG f0' f1' d0 d1 d2 e0 e1 e2 hx qB;go_wp2_with(go_at_call 184;refine HMr.out.mono ?_;rintro e rD (⟨x3,qF,rfl,qU⟩|⟨bb,j3,qF,⟨rfl,rO⟩,qU⟩)<;>have xE:=zh (NR.out.next qU)<;>obtain⟨y0,y1,z0,z1⟩:=bxT2 xE.out.loc<;>obtain⟨u0',u1',v0',v1'⟩:=bxT2 xE.out.res)
     ·exact RL
     ·rename_i qQ;subst qQ;have hR:=qI.out.trans ((PR.bnd_ok DI.out).trans ((PR.bnd_ok qW.out).trans ((PR.bnd_ok qF).trans (if_pos rfl))));have MW:=oZ qF;refine bodyPost_ret (v:=.agg #[.int .i64 2,.slice (some ⟨g',0,none⟩) 1 cap']) (by simp[results,Tryz.results115,go_sem,u0',u1']) rfl ?_;exact RA
     exact P5
  have hmb:(m:Int)+1<=8:=by have:=HT.out.1.few;omega
  cases uO:cG p.l q with
  |false=>
   as_aux_lemma=>
    go_wp2_with(first|(go_at_call 182;refine(iC p wr q HT.out.2.1).mono ?_;rintro e w5 ⟨rfl,hb5⟩;rw[uO];have ER:=zh (HT.out.2.1.later hb5);have DU:=zh (HT.out.1.next (Ba hb5));obtain⟨c0,c1,f0,f1⟩:=bxT2 DU.out.loc;have cl:=DU.out.last hm rfl)|(go_at_call 183;refine(mT p w5 q (iT fs) true ER.out).mono ?_;rintro e w6 (⟨x,hx,rfl,qR⟩|⟨a,j1,hx,⟨rfl,tG,EV⟩,qR⟩)<;>have DA:=zh (DU.out.next qR)))
    ·exact RR
    rw[jA uO] at hx;cases hx
  |true=>
   as_aux_lemma=>
    go_wp2_with(first|(go_at_call 182;refine(iC p wr q HT.out.2.1).mono ?_;rintro e w5 ⟨rfl,hb5⟩;rw[uO];have ER:=zh (HT.out.2.1.later hb5);have DU:=zh (HT.out.1.next (Ba hb5));obtain⟨c0,c1,f0,f1⟩:=bxT2 DU.out.loc;have cl:=DU.out.last hm rfl)|(go_at_call 49;refine(fZ p w5 q _ _ ER.out).mono ?_;rintro e w5' (⟨CZ,rfl,rfl⟩|⟨CZ,rfl,JX⟩))|(go_at_call 183;refine(mT p w5 q (iT fs) true ER.out).mono ?_;rintro e w6 (⟨x,hx,rfl,qR⟩|⟨a,j1,hx,⟨rfl,tG,EV⟩,qR⟩)<;>have DA:=zh (DU.out.next qR))|(go_at_call 115;have rW:=laterP_ok hx;refine(HRec.out j1 (w6.alloc (cA a 0 none 0 0)) (tG.later (aB _ _)) RY).mono ?_;rintro e w7 (⟨x2,qB,rfl,qO⟩|⟨t,j2,qB,⟨k,sa,sn,sc,rfl,sT,rX,JR⟩,qO⟩)<;>have EX:=zh (qO.heap (fun e=>UC) (bY w6 (cA a 0 none 0 0)))<;>have NP:=zh (DA.out.next ((Ba (aB w6 (cA a 0 none 0 0))).trans qO))<;>have qZ:=DA.out.acc.big<;>have hn6:¬b3=w6.heap.size:=RY<;>have hn6':¬w6.heap.size=b3:=RY<;>obtain⟨c0',wG,f0',f1'⟩:=bxT2 NP.out.loc<;>obtain⟨d0,d1,d2,e0,e1,e2⟩:=bxT3 EX.out)|(at_builtin;have O9:Off p.S w6 (((w7.setCell ⟨w6.heap.size,1,none⟩ (.int .i64 k)).setCell ⟨w6.heap.size,2,none⟩ (.slice sa sn sc)).alloc (cA a k sa sn sc)):=Off.fresh (((Ba (S:=p.S) (aB w6 (cA a 0 none 0 0))).trans qO).or w6.heap.size |>.trans (((Off.setCell (S:=fun b=>p.S b\/w6.heap.size<=b) w7 (.inr (Nat.le_refl _))).trans (Off.setCell (S:=fun b=>p.S b\/w6.heap.size<=b) _ (.inr (Nat.le_refl _)))).trans (Ba (aB _ _)))) (Nat.le_refl _);have NO:=zh (DA.out.next O9);have sB:=NO.out.acc.big;have sA:=NO.out.acc.own;refine wpList_append_lies _ rfl _ _ 24 rfl B 105 i0 (.agg #[.string ByteArray.empty,.int .i64 0,.slice none 0 0]) 3 48 Tryz.underlying24 xS xN sG rU rfl RY (.slice (some ⟨g,0,none⟩) (m+1) cap) (m+1) css.flatten TH (by simpa[hm] using sA) ⟨w7.heap.size,0,none⟩ 1 1 [.string a,.int .i64 k,.slice sa sn sc] TH rfl (World.news_of_block (cs:=#[.string a,.int .i64 k,.slice sa sn sc]) (t:=105) (fr:=(0,0)) TL) SG RY SH RY (by simpa using sB) (w7.heap.size+1) R2 ?_))
    ·have qI:=zh (HT.out.2.2.1.trans ((gN uO).trans (PR.bnd_ok (if_pos (show fs.length<8 by rw[hm];simp at CZ;omega)))));have DI:=zh ((congrArg (eC p.l q (iT fs)) (decide_eq_true (show 0<fs.length by omega))).trans hx);exact⟨rfl,Ran.bad' (qI.out.trans (PR.bnd_bad DI.out)) DA.out.off⟩
    ·have qI:=zh (HT.out.2.2.1.trans ((gN uO).trans (PR.bnd_ok (if_pos (show fs.length<8 by rw[hm];simp at CZ;omega)))));have DI:=zh ((congrArg (eC p.l q (iT fs)) (decide_eq_true (show 0<fs.length by omega))).trans hx);exact⟨rfl,Ran.bad' (qI.out.trans ((PR.bnd_ok DI.out).trans (PR.bnd_bad qB))) NP.out.off⟩
    ·have qI:=zh (HT.out.2.2.1.trans ((gN uO).trans (PR.bnd_ok (if_pos (show fs.length<8 by rw[hm];simp at CZ;omega)))));have DI:=zh ((congrArg (eC p.l q (iT fs)) (decide_eq_true (show 0<fs.length by omega))).trans hx);intro g' cap' rB pR pM qV _;obtain⟨BP,GU,tP,A8,GB⟩:=DA.out.step HS.out (by rw[hm];simp at CZ;omega) qO rX sT EV pR (by rw[hm]) pM qV;obtain⟨m0,m1,n0,n1⟩:=bxT2 BP;obtain⟨q0,q1,q2,r0,r1,r2⟩:=bxT3 GB;have NR:=zh GU;have qW:=zh qB;have HMr:=zh (more_any p _ j2 _ t k _ cL tP A8 (Nat.le_trans (lR f _ t j2 qB) RY));clear pR pM qV BP GU tP A8 GB sT rX qO EX NP O9 NO sB sA c0' wG f0' f1' d0 d1 d2 e0 e1 e2 hx qB;go_wp2_with(go_at_call 184;refine HMr.out.mono ?_;rintro e rD (⟨x3,qF,rfl,qU⟩|⟨bb,j3,qF,⟨rfl,rO⟩,qU⟩)<;>have xE:=zh (NR.out.next qU)<;>obtain⟨y0,y1,z0,z1⟩:=bxT2 xE.out.loc<;>obtain⟨u0',u1',v0',v1'⟩:=bxT2 xE.out.res)
     ·exact RL
     ·rename_i qQ;subst qQ;have hR:=qI.out.trans ((PR.bnd_ok DI.out).trans ((PR.bnd_ok qW.out).trans ((PR.bnd_ok qF).trans (if_pos rfl))));have MW:=oZ qF;refine bodyPost_ret (v:=.agg #[.int .i64 2,.slice (some ⟨g',0,none⟩) (m+1+1) cap']) (by simp[results,Tryz.results115,go_sem,u0',u1']) rfl ?_;exact RA
     exact P5
    exact⟨rfl,Ran.bad (HT.out.2.2.1.trans ((gN uO).trans (PR.bnd_bad (if_neg (show ¬fs.length<8 by rw[hm];simp at CZ;omega))))) (DU.out.off.trans (Ba JX))⟩
theorem typed_ok(p:Prs):∀f,f<=8010->TypedOk p f
 |0,_=>fun i w h hf=>by have:=h.lt;omega
 |f+1,hf=>fun i w h sH=>by
  have hr:=typed_ok p f RY
  cases h0:isP p.l i kIntW with
  |true=>exact typed_int p f w i h h0
  |false=>
   cases h1:isP p.l i kBool with
   |true=>exact typed_bool p f w i h h0 h1
   |false=>exact typed_more p f RY hr w i h sH h0 h1
theorem typed_any(p:Prs)(w:World)(i:Nat)(h:p.At w i):Calls Tryz.prog 115 #[.pointer (some ⟨p.pb,0,none⟩)] w
  (Ran p.S w (iW p.l i) fun t j e w'=>∃k sa sn sc,e=.returned (.agg #[.int .i64 k,.slice sa sn sc])/\gB (bO w.heap.size) w' t [.int .i64 k,.slice sa sn sc]/\p.At w' j/\i<j):=
 typed_ok p (p.l.length+1) (by have:=h.len;omega) i w h RY
theorem lF{l:List Tok}{i j:Nat}{t:Ty}(h:iW l i=.ok (t,j)):aZ t<=l.length+1:=lR _ _ _ _ h
end Go.Proofs.YtiionicikdnnpaaGreatDoor
namespace Go.Proofs.YtiionicikdnnpaaGreatDoor
open Go.RowKit
abbrev fQ:List bA:=[kIf,lJ,mL,mD,cU,bU,gM]
theorem begins_word{l:List Tok}{i:Nat}(h1:(aI l i).kind≠1)(h2:(aI l i).kind≠2)(h3:(aI l i).kind≠3):dX l i=
  ((fQ.any fun s=>decide ((aI l i).text=s))||decide (bN (aI l i).text≠0)||aM (aI l i).text):=by
 unfold dX;rw[if_neg h1,if_neg h2,if_neg h3]
theorem kOpen_list:aS.toList=[40]:=by rw[Lib.toList_data]
theorem kLBrace_list:bH.toList=[123]:=by rw[Lib.toList_data]
theorem bwCells(w:World):∀(k:Nat)(x:bA),fQ[k]? =some x->(w.alloc (.cells (fQ.map Value.string).toArray 9)).cell? ⟨w.heap.size,k,none⟩=some (.string x):=fun k x hx=>by
 rw[cell_of_row _ w.heap.size k _ _ _ (bY w _)];rw[List.getElem?_toArray,List.getElem?_map,hx];rfl
theorem begins_any(p:Prs)(w:World)(i:Nat)(h:p.At w i):Calls Tryz.prog 247 #[.pointer (some ⟨p.pb,0,none⟩)] w fun e w'=>e=.returned (.bool (dX p.l i))/\Below w.heap.size w w':=by
 have HA:=zh h;have HN:=zh (fun W(hW:p.At W i)=>cQ p W i hW);have sV:=(h.toks i _ h.tok).2;have HM:=zh (fun W(hW:p.At W i)=>iX (aI p.l i).text W RY hW.glob);have HBt:=zh (fun W(hW:p.At W i)=>iS (aI p.l i).text W hW.spc);have HW:=zh (fun h1 h2 h3=>begins_word (l:=p.l) (i:=i) h1 h2 h3);have qL:Hid ((aI p.l i).kind=1->dX p.l i=true):=zh (fun e=>by unfold dX;rw[if_pos e]);have pZ:Hid ((aI p.l i).kind=2->dX p.l i=(decide ((aI p.l i).text=aS)||decide ((aI p.l i).text=bH))):=zh (fun e=>by unfold dX;rw[if_neg RY,if_pos e]);have qJ:Hid ((aI p.l i).kind=3->dX p.l i=false):=zh (fun e=>by unfold dX;rw[if_neg RY,if_neg RY,if_pos e]);clear h sV;generalize dX p.l i=r at HW qL pZ qJ ⊢;generalize aI p.l i=t at HN HM HBt HW qL pZ qJ;by_cases k1:t.kind=1
 ·have zQ:(t.kind==1)=true:=by rw[beq_iff_eq];exact k1
  go_enter Tryz.func247,Tryz.ntmps247;go_wp2_with(go_at_call 50;refine(HN.out w HA.out).mono ?_;rintro e w1 ⟨rfl,pO⟩);go_ret;exact⟨aE (qL.out k1).symm,aA pO (aB _ _)⟩
 by_cases k2:t.kind=2
 ·have k2':(t.kind==2)=true:=by rw[beq_iff_eq];exact k2
  have zQ:(t.kind==1)=false:=SC;have hR:=pZ.out k2;rw[<-eE,<-eE] at hR;have HR:=zh hR;clear hR;go_enter Tryz.func247,Tryz.ntmps247;go_wp2_with(go_at_call 50;refine(HN.out w HA.out).mono ?_;rintro e w1 ⟨rfl,pO⟩)
  ·go_ret;exact⟨aE (by rw[HR.out,kOpen_list,‹t.text.toList=[40]›];rfl),aA pO (aB _ _)⟩
  go_ret;exact⟨aE (by rw[HR.out,kOpen_list,kLBrace_list]),aA pO (aB _ _)⟩
 by_cases k3:t.kind=3
 ·have k3':(t.kind==3)=true:=by rw[beq_iff_eq];exact k3
  have k2':(t.kind==2)=false:=U5;have zQ:(t.kind==1)=false:=SC;go_enter Tryz.func247,Tryz.ntmps247;go_wp2_with(go_at_call 50;refine(HN.out w HA.out).mono ?_;rintro e w1 ⟨rfl,pO⟩);go_ret;exact⟨aE (qJ.out k3).symm,aA pO (aB _ _)⟩
 have k3':(t.kind==3)=false:=by rw[beq_eq_false_iff_ne];exact k3
 have k2':(t.kind==2)=false:=U5;have zQ:(t.kind==1)=false:=SC;go_enter Tryz.func247,Tryz.ntmps247;go_wp2_with(go_at_call 50;refine(HN.out w HA.out).mono ?_;rintro e w1 ⟨rfl,pO⟩);have HR:=zh (HW.out k1 k2 k3);have HWd:=zh (bwCells (w1.alloc (dI t.kind t.text t.n t.pos)));have HT:=zh (aD (aB (w1.alloc (dI t.kind t.text t.n t.pos)) (.cells (fQ.map Value.string).toArray 9)) (bx (bY w1 (dI t.kind t.text t.n t.pos)) 1 (u:=.string t.text) rfl).1);have IT:=zh (aA pO (aA (aB w1 (dI t.kind t.text t.n t.pos)) (aB _ (.cells (fQ.map Value.string).toArray 9))));have A0:=zh (HA.out.later IT.out);have hz:(w1.alloc (dI t.kind t.text t.n t.pos)).heap.size=w1.heap.size+1:=R2;rw[hz] at HWd;have HAny:=zh (fun(k:Nat)(x:bA)(hx:fQ[k]? =some x)(e:t.text=x)=>show(fQ.any fun s=>decide (t.text=s))=true from List.any_eq_true.2 ⟨x,List.mem_of_getElem? hx,by simp[e]⟩);have HNone:=zh (fun(h:∀x,x∈fQ->decide (t.text=x)=false)=>show(fQ.any fun s=>decide (t.text=s))=false from by rw[List.any_eq_false];intro x hx;rw[h x hx];simp);clear hz;have qG:Hid (fQ.length=7):=zh rfl;generalize hW2:(w1.alloc (dI t.kind t.text t.n t.pos)).alloc (.cells (fQ.map Value.string).toArray 9)=W2 at HWd HT IT A0;change Code.wp _ _ _ _ ((w1.alloc (dI t.kind t.text t.n t.pos)).alloc (.cells (fQ.map Value.string).toArray 9));rw[hW2];clear hW2 pO;generalize fQ=L at *;go_loop [26] (fun idx=>∃k:Nat,k<=7/\idx=.int .i64 k/\Hid (∀x,x∈L.take k->decide (t.text=x)=false)) (fun idx=>7-(intOf idx).toNat)
 case atStart=>exact⟨0,Nat.zero_le _,rfl,zh R2⟩
 case round=>
  obtain⟨k,hk,rfl,HP⟩:=hrel;by_cases qA:k<7
  ·obtain⟨x,hx,-⟩:=getElem?_of_lt (l:=L) (k:=k) (by rw[qG.out];exact qA);have hc:=HWd.out k x hx;have hT:=HT.out;have HX:=zh hx;clear hx;by_cases he:t.text=x
   ·(have JW:(t.text.toList==x.toList)=true:=by rw[eE];exact decide_eq_true he);have HE:=zh he;clear he;go_wp2_with fail;go_ret;exact⟨aE (by rw[HR.out,HAny.out k x HX.out HE.out];rfl),IT.out⟩
   (have JW:(t.text.toList==x.toList)=false:=by rw[eE];exact decide_eq_false he);have HE:=zh he;clear he;go_wp2_with fail
   go_round
   (case rel=>exact⟨k+1,RY,SK,zh (take_no HX.out (decide_eq_false HE.out) HP.out)⟩);case measure=>simp[intOf];omega
  have hk7:k=7:=RY;subst hk7;have HNo:=zh (HNone.out (fun x hx=>HP.out x (by rw[List.take_of_length_le (by rw[qG.out];decide)];exact hx)));have hT:=HT.out;generalize bN t.text=bv at HBt HR;by_cases hbv:bv=0
  ·(have hbv':(bv != 0)=false:=by rw[hbv];rfl);go_wp2_with(first|(go_at_call 154;refine(HBt.out W2 A0.out).mono ?_;rintro e w3 ⟨rfl,pX⟩;have KX:=zh (A0.out.later pX);have hT3:=aD pX hT)|(go_at_call 17;refine(HM.out w3 KX.out).mono ?_;rintro e w4 ⟨rfl,rfl⟩));go_ret;exact⟨aE (by rw[HR.out,HNo.out,decide_eq_false (by simpa using hbv)];rfl),aA IT.out pX⟩
  have hbv':(bv != 0)=true:=by rw[bne_iff_ne];exact hbv
  go_wp2_with(go_at_call 154;refine(HBt.out W2 A0.out).mono ?_;rintro e w3 ⟨rfl,pX⟩);go_ret;exact⟨aE (by rw[HR.out,HNo.out,decide_eq_true (by simpa using hbv)];rfl),aA IT.out pX⟩
end Go.Proofs.YtiionicikdnnpaaGreatDoor
