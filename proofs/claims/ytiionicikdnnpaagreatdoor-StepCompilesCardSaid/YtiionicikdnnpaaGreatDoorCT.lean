/- Texts of this seat, joined. -/
import Derived.Test.YtiionicikdnnpaaGreatDoorCS
set_option maxHeartbeats 2000000
set_option maxRecDepth 100000
set_option linter.unusedVariables false
set_option linter.unusedSimpArgs false
namespace Go.Proofs.YtiionicikdnnpaaGreatDoor
open Go.RowKit
theorem qR(p:Prs)(w:World)(i a b:Nat)(h:p.At w i):
  Calls Tryz.prog 113 #[.pointer (some ⟨p.pb,0,none⟩),.int .i64 (a:Int),.int .i64 (b:Int)] w (Ran p.S w (fD p.l i a b) fun _ j e w'=>e=.returned (.tuple #[])/\p.At w' j):=by
 have HA:=zh h;have HR:Hid (fD p.l i a b=if a<b then .ok ((),i) else .error ((aL p.l i).pos,6)):=zh rfl;clear h;by_cases rU:(a:Int)<(b:Int)
 ·have zC:decide ((a:Int)<(b:Int))=true:=decide_eq_true rU;go_enter Tryz.func113,Tryz.ntmps113;go_wp2_with(go_at_call 49;refine(gN p _ i _ _ HA.out).mono ?_;rintro e w2 (⟨he,rfl,rfl⟩|⟨he,rfl,rQ⟩)<;>first|(cases he;done)|skip);go_end0;exact Ran.good (by rw[HR.out,if_pos YM]) ⟨rfl,HA.out⟩ (Off.refl _ _)
 have zC:decide ((a:Int)<(b:Int))=false:=decide_eq_false rU;go_enter Tryz.func113,Tryz.ntmps113;go_wp2_with(go_at_call 49;refine(gN p _ i _ _ HA.out).mono ?_;rintro e w2 (⟨he,rfl,rfl⟩|⟨he,rfl,rQ⟩)<;>first|(cases he;done)|skip);exact⟨rfl,Ran.bad (by rw[HR.out,if_neg YM]) (Ba rQ)⟩
theorem run_gtr_str(t:TypeId)(a b:bA)(w:World):(binOp .gtr t (.string a) (.string b)).run Tryz.prog w=.ok (.bool !(Op.bytesLess a.toList b.toList||a.toList==b.toList)) w:=by
 simp[binOp,Op.stringOp]
theorem oN(p:Prs)(w:World)(i:Nat)(than:bA)(any:Bool)(h:p.At w i):
  Calls Tryz.prog 183 #[.pointer (some ⟨p.pb,0,none⟩),.string than,.bool any] w (Ran p.S w (fP p.l i than any) fun a j e w'=>e=.returned (.string a)/\p.At w' j/\a.size<=8000):=by
 have HA:=zh h;have HI:=zh (jF p w i h);have HN:=zh (fun W(hW:p.At W i)=>dO p W i hW);have HM:=zh (fun W(hW:p.At W i)=>gJ p W i hW);have F1:=tokF1;have hG:=run_gtr_str
 cases hq:cP p.l i with
 |false=>
  have HW:Hid (fP p.l i than any=.error ((aL p.l i).pos,11)):=zh (by unfold fP;rw[hq];rfl);rw[hq] at HI;clear h hq;go_enter Tryz.func183,Tryz.ntmps183;exact WF
 |true=>
  have GV:Hid (gK p.l i=.ok ((aL p.l i).text,i+1)):=zh aBo;have HW:Hid (fP p.l i than any=if any&&decide ((aL p.l i).text=than) then .error ((aL p.l i).pos,5) else if any&& !gtB (aL p.l i).text than then .error ((aL p.l i).pos,12) else .ok ((aL p.l i).text,i+1)):=zh (by unfold fP;rw[hq];rfl);rw[hq] at HI;clear h hq;generalize ht:aL p.l i=t at HN GV HW;have EU:=zh ht;clear ht
  cases any with
  |false=>
   go_enter Tryz.func183,Tryz.ntmps183;go_wp2_with(first|(go_at_call 182;refine HI.out.mono ?_;rintro e w1 ⟨rfl,rR⟩;have sG:=zh (HA.out.later rR))|(go_at_call 49;refine(rI p _ _).mono ?_;rintro e w2 ⟨rfl,rfl⟩)|(go_at_call 111;refine(HM.out _ sG.out).mono ?_;rintro e w3 (⟨x,hx,rfl,ho⟩|⟨a,j,hx,⟨rfl,uF,tK⟩,ho⟩)))
   ·rw[GV.out] at hx;cases hx
   rw[GV.out] at hx;cases hx;go_ret;exact Ran.good (by rw[HW.out];rfl) ⟨rfl,uF,tK⟩ ((Ba rR).trans ho)
  |true=>
   go_enter Tryz.func183,Tryz.ntmps183;go_wp2_with(first|(go_at_call 182;refine HI.out.mono ?_;rintro e w1 ⟨rfl,rR⟩;have sG:=zh (HA.out.later rR))|(go_at_call 50;refine(HN.out w2 sS.out).mono ?_;rintro e w3 ⟨rfl,tI⟩;have uF:=zh (sS.out.later tI))|(go_at_call 50;refine(HN.out w1 sG.out).mono ?_;rintro e w2 ⟨rfl,rQ⟩;have sS:=zh (sG.out.later rQ))|(go_at_call 111;refine(HM.out w3 uF.out).mono ?_;rintro e w4 (⟨x,hx,rfl,ho⟩|⟨a,j,hx,⟨rfl,uA,tK⟩,ho⟩))|(go_at_call 49;refine(gN p w3 i _ _ uF.out).mono ?_;rintro e w5 (⟨RF,rfl,rfl⟩|⟨RF,rfl,hb5⟩))|(go_at_call 49;refine(gN p w2 i _ _ sS.out).mono ?_;rintro e w5 (⟨AP,rfl,rfl⟩|⟨AP,rfl,hb5⟩))|(go_at_call 49;refine(gN p w1 i _ _ sG.out).mono ?_;rintro e w5 (⟨ED,rfl,rfl⟩|⟨ED,rfl,hb5⟩)<;>first|(cases ED;done)|skip))
   ·rw[GV.out] at hx;cases hx
   ·rw[GV.out] at hx;cases hx;(have e2:(t.text.toList==than.toList)=false:=by simpa using AP);(have e3:gtB t.text than=true:=by unfold gtB;rw[e2];simpa using RF);go_wp2_with fail;go_ret;exact Ran.good (by rw[HW.out,e3,<-eG,e2];rfl) ⟨rfl,uA,tK⟩ ((Ba (aC rR (aC rQ tI))).trans ho)
   ·(have e2:(t.text.toList==than.toList)=false:=by simpa using AP);(have e3:gtB t.text than=false:=by unfold gtB;rw[e2];simpa using RF);exact⟨rfl,Ran.bad (by rw[EU.out,HW.out,e3,<-eG,e2];rfl) (Ba (aC rR (aC rQ (aC tI hb5))))⟩
   (have e2:(t.text.toList==than.toList)=true:=by simpa using AP);exact⟨rfl,Ran.bad (by rw[EU.out,HW.out,<-eG,e2];rfl) (Ba (aC rR (aC rQ hb5)))⟩
def fC(known:bA->Bool)(x:bA):Option Bool:=if known x then some true else none
theorem setOf_getD(known:bA->Bool)(x:bA):(fC known x).getD false=known x:=by unfold fC;cases known x<;>rfl
theorem setOf_put(known:bA->Bool)(a:bA):(fun z=>if z=a then some true else fC known z)=fC (fun z=>decide (z=a)||known z):=by
 funext z;unfold fC;by_cases h:z=a<;>simp[h]
abbrev Prs.S2(p:Prs)(km:Nat):Nat->Prop:=fun k=>k=p.pb\/k=km
theorem Off.mono{S S':Nat->Prop}{w w':World}(h:Off S w w')(hS:∀k,S k->S' k):Off S' w w':=⟨h.os,h.tape,h.output,h.size,fun k hk hn=>h.block k hk (fun hs=>hn (hS k hs))⟩
theorem off_map{w w':World}{km:Nat}{S:Nat->Prop}(hS:S km)(hg:w.grownBy w' (some km)):Off S w w':=Off.of_only (only_grown hg) hS
section
variable {p:Prs} {w w':World} {i km n:Nat} {known:bA->Bool}
theorem Prs.At.nemap(h:p.At w i)(hm:gG w km):km≠p.pb/\km≠p.b:=by
 have h0:=h.lt;exact⟨fun e=>hm.ne h.box0 e.symm,fun e=>hm.ne (h.toks i _ h.tok).1.1 e.symm⟩
theorem Prs.At.grown(h:p.At w i)(hm:gG w km)(hk:11<=km)(hg:w.grownBy w' (some km)):p.At w' i:=by
 have hn:=h.nemap hm;exact h.off (S:=fun k=>k=km) (off_map rfl hg) (fun e=>hn.1 e.symm) (fun e=>hn.2 e.symm) (fun k OS e=>YM)
theorem map_off{P:Program}{kt et:TypeId}{κ ν:Type}{K:KeyC P kt κ}{V:ValC P et ν}{m:κ->Option ν}(h:p.At w i)(hm:bV K V w km n m)(ho:Off p.S w w'):bV K V w' km n m:=
 hm.of_block (ho.block km hm.lt (h.nemap (gG.of hm)).1)
end
theorem oO(p:Prs)(w:World)(i km n:Nat)(known:bA->Bool)(h:p.At w i)(hm:bV kG fZ w km n (fC known))(hk:11<=km)(hn:n<1000000):
  Calls Tryz.prog 114 #[.pointer (some ⟨p.pb,0,none⟩),.map (some km)] w (Ran (p.S2 km) w (gQ p.l i known) fun a j e w'=>e=.returned (.string a)/\p.At w' j/\bV kG fZ w' km (n+1) (fC fun z=>decide (z=a)||known z)/\a.size<=8000):=by
 have HA:=zh h;have UZ:=zh hm;have HI:=zh (jF p w i h);have HN:=zh (fun W(hW:p.At W i)=>dO p W i hW);have HM:=zh (fun W(hW:p.At W i)=>gJ p W i hW);have tK:=(h.toks i _ h.tok).2;have F1:=tokF1;have hS:∀k,p.S k->p.S2 km k:=fun k h=>.inl h
 cases hq:cP p.l i with
 |false=>
  have HW:Hid (gQ p.l i known=.error ((aL p.l i).pos,11)):=zh (by unfold gQ;rw[hq];rfl);rw[hq] at HI;clear h hq hm tK;go_enter Tryz.func114,Tryz.ntmps114;exact WF
 |true=>
  have GV:Hid (gK p.l i=.ok ((aL p.l i).text,i+1)):=zh aBo;have HW:Hid (gQ p.l i known=if known (aL p.l i).text then .error ((aL p.l i).pos,5) else .ok ((aL p.l i).text,i+1)):=zh (by unfold gQ;rw[hq];unfold kL;rfl);rw[hq] at HI;clear h hq hm;generalize ht:aL p.l i=t at HN GV HW tK;have EU:=zh ht;clear ht;have s1:t.text.size<=140737488355328:=YM;have HL:=zh (setOf_getD known t.text);have HP:=zh (setOf_put known t.text);generalize Q7:known t.text=q at HL HW;clear Q7;go_enter Tryz.func114,Tryz.ntmps114;go_wp2_with(first|(go_at_call 182;refine HI.out.mono ?_;rintro e w1 ⟨rfl,rR⟩;have sG:=zh (HA.out.later rR);have AK:=zh (UZ.out.later rR))|(go_at_call 50;refine(HN.out w2 sS.out).mono ?_;rintro e w3 ⟨rfl,tI⟩;have uF:=zh (sS.out.later tI);have hm3:=zh (Q0.out.later tI))|(go_at_call 50;refine(HN.out w1 sG.out).mono ?_;rintro e w2 ⟨rfl,rQ⟩;have sS:=zh (sG.out.later rQ);have Q0:=zh (AK.out.later rQ))|(go_at_call 111;refine(HM.out w4 uA.out).mono ?_;rintro e w5 (⟨x,hx,rfl,ho⟩|⟨a,j,hx,⟨rfl,uS,hsz5⟩,ho⟩))|(go_at_call 49;refine(gN p w2 i _ _ sS.out).mono ?_;rintro e w5 (⟨AP,rfl,rfl⟩|⟨AP,rfl,hb5⟩))|(go_at_call 49;refine(gN p w1 i _ _ sG.out).mono ?_;rintro e w5 (⟨ED,rfl,rfl⟩|⟨ED,rfl,hb5⟩)<;>first|(cases ED;done)|skip)|(at_lookup;refine bZ Q0.out s1 HL.out rfl rfl rfl rfl ?_)|(at_mapUpdate;refine lF hm3.out YM s1 rfl rfl rfl rfl rfl ?_;intro w4 hm4 hg4;have uA:=zh (uF.out.grown (gG.of hm3.out) hk hg4);have hg4':=zh hg4;have hm4':=zh (hm4.ext (fun z=>congrFun HP.out z));clear hm4 hg4))
  ·rw[GV.out] at hx;cases hx
  ·rw[GV.out] at hx;cases hx;go_ret;(have hq:q=false:=by cases q<;>simp_all);exact Ran.good (by rw[HW.out,hq];rfl) ⟨rfl,uS,map_off uA.out hm4'.out ho,hsz5⟩ ((Ba (aC rR (aC rQ tI))).trans ((off_map (.inr rfl) hg4'.out).trans (ho.mono hS)))
  have hq:q=true:=by cases q<;>simp_all
  exact⟨rfl,Ran.bad (by rw[EU.out,HW.out,hq];rfl) (Ba (aC rR (aC rQ hb5)))⟩
end Go.Proofs.YtiionicikdnnpaaGreatDoor
namespace Go.Proofs.YtiionicikdnnpaaGreatDoor
open Go.RowKit
theorem V6{p:Prop}(h:p:=by
 go_enter Tryz.func184,Tryz.ntmps184;go_wp2_with(first|(go_at_call 117;refine(HL.out _ (aA _ _)).mono ?_;rintro e w1 ⟨rfl,rR⟩;have GC:=zh (aC (aA _ _) rR);have sG:=zh (HA.out.later GC.out))|(go_at_call 112;refine(HI.out w1 sG.out).mono ?_;rintro e w2 ⟨rfl,rQ⟩;have sS:=zh (sG.out.later rQ))|(go_at_call 116;refine(HE.out w2 _ _ sS.out).mono ?_;rintro e w3 (⟨x,hx,rfl,ho⟩|⟨⟨⟩,j,hx,⟨rfl,uF⟩,ho⟩)))
 ·exact⟨rfl,Ran.bad (by rw[HM.out,<-HD.out,hx];rfl) ((Ba (aC GC.out rQ)).trans ho)⟩
 go_ret
 exact Ran.good (by rw[HM.out,<-HD.out,hx];rfl) ⟨rfl,uF⟩ ((Ba (aC GC.out rQ)).trans ho)):p:=h
abbrev effectB:bA:=bs [102,105,108,101,115,32,110,101,116,32,99,108,111,99,107,32,115,101,99,114,101,116,115]
abbrev bF:List bA:=[qF,kNet,qG,lH]
theorem effFields:(Lib.fields effectB.data.toList).map (fun l=>Value.string ⟨l.toArray⟩)=bF.map Value.string:=ZV
theorem effLen:(Lib.fields effectB.data.toList).length=4:=ZV
theorem effAscii:∀(j:Nat)b,effectB.data.toList[j]? =some b->b.toNat<128:=by
 have h:effectB.data.toList.all (fun b=>decide (b.toNat<128))=true:=ZV;intro j b hb;have:=List.all_eq_true.1 h b (List.mem_of_getElem? hb);simpa using this
theorem bitOf_idx(s:bA):(Lib.idxOfS bF s=0/\bR s=1)\/(Lib.idxOfS bF s=1/\bR s=2)\/(Lib.idxOfS bF s=2/\bR s=4)\/(Lib.idxOfS bF s=3/\bR s=8)\/(Lib.idxOfS bF s= -1/\bR s=0):=by
 unfold Lib.idxOfS bR;by_cases h1:s=qF
 ·left;subst h1;exact⟨rfl,rfl⟩
 by_cases h2:s=kNet
 ·right;left;subst h2;exact⟨rfl,rfl⟩
 by_cases h3:s=qG
 ·right;right;left;subst h3;exact⟨rfl,rfl⟩
 by_cases h4:s=lH
 ·right;right;right;left;subst h4;exact⟨rfl,rfl⟩
 right;right;right;right;refine⟨?_,by rw[if_neg h1,if_neg h2,if_neg h3,if_neg h4]⟩;simp only[Lib.idxFromS,if_neg (Ne.symm h1),if_neg (Ne.symm h2),if_neg (Ne.symm h3),if_neg (Ne.symm h4)]
theorem effCells(w:World):∀j,j<bF.length->(w.alloc (.cells (bF.map Value.string).toArray 9)).cell? ⟨w.heap.size,0+j,none⟩=some (.string (bF.getD j ByteArray.empty)):=by
 intro j hj;rw[cell_of_row _ w.heap.size (0+j) _ _ _ (bY w _),Nat.zero_add]
 match j,hj with
 |0,_=>rfl
 |1,_=>rfl
 |2,_=>rfl
 |3,_=>rfl
theorem fieldsEff(w:World)(hs:Lib.TabIs Tryz.prog w "strings.asciiSpace" .u8 Lib.asciiSpaceTab):Calls Tryz.prog 153 #[.string effectB] w fun e w'=>e=.returned (.slice (some ⟨w.heap.size,0,none⟩) 4 4)/\w'=w.alloc (.cells (bF.map Value.string).toArray 9):=by
 have h:=Tryz.strings_Fields_laid effectB w YO effAscii hs;rw[effLen,effFields] at h;exact h
theorem jN(s:bA)(w:World)(hs:Lib.TabIs Tryz.prog w "strings.asciiSpace" .u8 Lib.asciiSpaceTab):
  Calls Tryz.prog 154 #[.string s] w fun e w'=>e=.returned (.int .i64 (bR s))/\Below w.heap.size w w':=by
 have HF:=zh (fieldsEff w hs);have HI:=zh (Tryz.slices_Index_string w.heap.size 0 4 4 bF s (w.alloc (.cells (bF.map Value.string).toArray 9)) (Nat.le_refl _) YO (effCells w));have HB:=zh (aA w (.cells (bF.map Value.string).toArray 9));rw[show bF.take 4=bF from rfl] at HI;have hb:=bitOf_idx s;generalize w.alloc (.cells (bF.map Value.string).toArray 9)=w1 at HF HI HB;generalize Lib.idxOfS bF s=q at HI hb;generalize bR s=r at hb ⊢;clear hs;rcases hb with⟨rfl,rfl⟩|⟨rfl,rfl⟩|⟨rfl,rfl⟩|⟨rfl,rfl⟩|⟨rfl,rfl⟩
 all_goals go_enter Tryz.func154,Tryz.ntmps154
 all_goals go_wp2_with(first|(go_at_call 153;refine HF.out.mono ?_;rintro e w2 ⟨rfl,rfl⟩)|(go_at_call 201;refine HI.out.mono ?_;rintro e w2 ⟨rfl,rfl⟩))
 all_goals go_ret
 all_goals exact⟨rfl,HB.out⟩
theorem more_any(p:Prs)(w:World)(i:Nat)(N:Nat->Prop)(t:Ty)(k:Int)(vf:Value)(s:bA)(h:p.At w i)(ht:iY N w t [.int .i64 k,vf])(tQ:bI t<=9000000000000000000):
  Calls Tryz.prog 184 #[.pointer (some ⟨p.pb,0,none⟩),.agg #[.int .i64 k,vf],.string s] w (Ran p.S w (nU p.l i t s) fun b j e w'=>e=.returned (.bool b)/\p.At w' j):=by
 have HA:=zh h;have HL:=zh (fun W(hW:Below w.heap.size w W)=>levels_any _ t N k vf W (Nat.le_refl _) tQ (fU _ _ _ _ _ _ (bU.later hW) ht));have HI:=zh (fun W(hW:p.At W i)=>gZ p W i aY hW);have HE:=zh (fun W f s(hW:p.At W i)=>end_any p W i f s hW);have HM:Hid (nU p.l i t s=if isP p.l i aY then(lX p.l i (decide (bI t<=4)) aY).bnd fun _ j=>.ok (false,j) else(lX p.l i (decide (bI t<=4)) s).bnd fun _ j=>.ok (true,j)):=zh rfl
 have hvf:∃a n c,vf=.slice a n c:=by
  cases t;rw[gV] at ht;obtain⟨v,e,a,c,rfl,-⟩:=ht;cases e;exact⟨_,_,_,rfl⟩
 obtain⟨a,n,c,rfl⟩:=hvf;clear h ht tQ;have hdec:decide ((bI t:Int)<=4)=decide (bI t<=4):=ZJ;have HD:=zh hdec;clear hdec;generalize bI t=lv at HL HM HD;generalize isP p.l i aY=q at HI HM
 cases q with
 |true=>
  exact V6
 |false=>
  exact V6
def posOf(w:World)(pb:Nat):Nat:=match w.cell? ⟨pb,1,none⟩ with
 |some (.int _ n)=>n.toNat
 |_=>0
theorem Prs.At.pos{p:Prs}{w:World}{i:Nat}(h:p.At w i):posOf w p.pb=i:=by unfold posOf;rw[h.box1];simp
theorem bx{w:World}{b:Nat}{cs:Array Value}{t:TypeId}(h:w.heap[b]? =some (.cells cs t))(i:Nat){u:Value}(hu:cs[i]? =some u):w.cell? ⟨b,i,none⟩=some u/\w.frozen? ⟨b,i,none⟩=false:=by
 constructor<;>simp[World.cell?,World.frozen?,h,hu]
theorem PR.bnd_bad{α β:Type}{m:PR α}{k:α->Nat->PR β}{x:Int×Int}(h:m=.error x):m.bnd k=.error x:=by rw[h];rfl
theorem PR.bnd_ok{α β:Type}{m:PR α}{k:α->Nat->PR β}{a:α}{j:Nat}(h:m=.ok (a,j)):m.bnd k=k a j:=by rw[h];rfl
theorem PR.of_bnd{α β:Type}{m:PR α}{k:α->Nat->PR β}{b:β}{j:Nat}(h:m.bnd k=.ok (b,j)):∃a i,m=.ok (a,i)/\k a i=.ok (b,j):=by
 unfold PR.bnd at h;split at h
 ·cases h
 exact⟨_,_,rfl,h⟩
section
variable {l:List Tok}
theorem dJ{i j:Nat}{s:bA}(h:eB l i s=.ok ((),j)):j=i+1/\isP l i s=true:=by
 unfold eB at h;split at h
 ·cases h;exact⟨rfl,‹_›⟩
 cases h
theorem endP_ok{i j:Nat}{f:Bool}{s:bA}(h:lX l i f s=.ok ((),j)):j=i+1:=by
 unfold lX at h;split at h
 ·split at h
  ·cases h;rfl
  cases h
 cases h
theorem gU{i j:Nat}{a:bA}(h:gK l i=.ok (a,j)):j=i+1:=by
 unfold gK at h;split at h
 ·cases h;rfl
 cases h
theorem laterP_ok{i j:Nat}{a than:bA}{any:Bool}(h:fP l i than any=.ok (a,j)):j=i+1:=by
 unfold fP at h;split at h
 ·split at h
  ·cases h
  split at h
  ·cases h
  cases h;rfl
 cases h
theorem rE{i j:Nat}{a:bA}{known:bA->Bool}(h:gQ l i known=.ok (a,j)):j=i+1:=by
 unfold gQ at h;split at h
 ·split at h
  ·cases h
  cases h;rfl
 cases h
theorem qZ{i j:Nat}{t:Ty}{s:bA}{b:Bool}(h:nU l i t s=.ok (b,j)):j=i+1:=by
 unfold nU at h;split at h
 ·obtain⟨a,k,h1,h2⟩:=PR.of_bnd h;have:=endP_ok h1;cases h2;exact this
 obtain⟨a,k,h1,h2⟩:=PR.of_bnd h;have:=endP_ok h1;cases h2;exact this
theorem qM{rec:Nat->PR Ty}{D:Nat}(hr:∀i t j,rec i=.ok (t,j)->bI t<=D):∀(F:Nat)(fs:List Fld)(i:Nat)(t:Ty)(j:Nat),cU fs<=D->eD l rec F fs i=.ok (t,j)->bI t<=D+1
 |0,fs,i,t,j,hf,h=>by
  unfold eD at h;cases h;rw[bI];omega
 |F+1,fs,i,t,j,hf,h=>by
  unfold eD at h;obtain⟨_,_,-,h⟩:=PR.of_bnd h;obtain⟨s,j1,-,h⟩:=PR.of_bnd h;obtain⟨u,j2,hu,h⟩:=PR.of_bnd h;obtain⟨q,j3,-,h⟩:=PR.of_bnd h;have hu2:=hr _ _ _ hu
  have hn:cU (fs++[(s,u)])<=D:=by
   have h1:=qE (fs++[(s,u)]) fs.length (s,u) YR;rw[List.take_of_length_le YR,List.take_left] at h1;rw[h1];exact Nat.max_le.2 ⟨hf,hu2⟩
  split at h
  ·cases h;rw[bI];omega
  exact qM hr F _ _ t j hn h
theorem nB:∀(f i:Nat)(t:Ty)(j:Nat),fK l f i=.ok (t,j)->bI t<=f
 |0,i,t,j,h=>by unfold fK at h;cases h
 |f+1,i,t,j,h=>by
  unfold fK at h;split at h
  ·cases h;simp[bI,cU]
  split at h
  ·cases h;simp[bI,cU]
  obtain⟨_,j1,-,h⟩:=PR.of_bnd h;split at h
  ·cases h;simp[bI,cU]
  exact qM (fun i t j h=>nB f i t j h) _ _ _ t j (by simp[cU]) h
def jR(fs:List Fld):bA:=(fs.getLast?.map (·.1)).getD noB
theorem iD{rec:Nat->PR Ty}{F:Nat}{fs:List Fld}{i:Nat}(hq:cP l i=true):eD l rec (F+1) fs i=
  (fD l i fs.length 8).bnd fun _ _=>(fP l i (jR fs) (decide (0<fs.length))).bnd fun s j=>(rec j).bnd fun t j2=>(nU l j2 t dH).bnd fun q j3=>
   if q then .ok (.mk 2 (fs++[(s,t)]),j3) else eD l rec F (fs++[(s,t)]) j3:=by
 rw[eD,if_pos hq];rfl
theorem qL{rec:Nat->PR Ty}{F:Nat}{fs:List Fld}{i:Nat}(hq:cP l i=false):eD l rec (F+1) fs i=.error ((aL l i).pos,11):=by
 rw[eD,if_neg aAI];unfold fP;rw[hq];rfl
end
end Go.Proofs.YtiionicikdnnpaaGreatDoor
namespace Go.Proofs.YtiionicikdnnpaaGreatDoor
open Go.RowKit
theorem WJ{p:Prop}(h:p:=by
 rename_i AE;subst AE;have hR:=sA.out.trans ((PR.bnd_ok G0.out).trans ((PR.bnd_ok sL.out).trans ((PR.bnd_ok rW).trans (if_neg YR))));have SZ:=qZ rW;have Q3:=tR.lt;obtain⟨F',wE⟩:∃F',F=F'+1:=⟨F-1,YM⟩;have HR':=zh hR;have M7:=zh tR;clear hR tR;go_roundw
 case rel=>
  subst wE;exact⟨j3,F',_,_,_,zh ⟨zX.out,M7.out,HR'.out,YM,YM⟩⟩
 case measure=>
  rw[M7.out.pos,HT.out.2.1.pos];omega):p:=h
theorem WT{p:Prop}(h:p:=by
 refine⟨_,rfl,hs,?_⟩;refine fU.wide (fU.off uG o9 (fun b hb hn=>by have hn:(w6.alloc (dB a 0 none 0 0)).heap.size<=b:=hn;omega)) fun b hn _=>?_;have hn:(w6.alloc (dB a 0 none 0 0)).heap.size<=b:=hn
 exact⟨YM,fun e=>by have:=rU b e;omega⟩):p:=h
theorem XR{p:Prop}(h:p:=by
 refine qK (N:=bQ B) hR YM zX.out.off tR HS.out ?_ (fun b hb=>aA1);rw[gV]
 exact⟨_,rfl,zX.out.acc.row aZ⟩):p:=h
theorem X6{p:Prop}(h:p:=by
 exact⟨rfl,Ran.bad' (sA.out.trans ((PR.bnd_ok G0.out).trans ((PR.bnd_ok sL.out).trans (PR.bnd_bad rW)))) zX.out.off⟩):p:=h
theorem YD{p:Prop}(h:p:=by
 exact⟨rfl,Ran.bad' (by have e:=(jX xH).symm.trans hx;cases e;exact HT.out.2.2.1.trans (qL xH)) GK.out.off⟩):p:=h
theorem Off.fresh{S:Nat->Prop}{w w':World}{B:Nat}(h:Off (fun k=>S k\/B<=k) w w')(hB:w.heap.size<=B):Off S w w':=
 ⟨h.os,h.tape,h.output,h.size,fun k hk hn=>h.block k hk (fun hs=>hs.elim hn (fun hb=>YM))⟩
theorem Off.or{S:Nat->Prop}{w w':World}(B:Nat)(h:Off S w w'):Off (fun k=>S k\/B<=k) w w':=h.mono fun _ h=>.inl h
theorem encT_slice{N:Nat->Prop}{w:World}{t:Ty}{k:Int}{vf:Value}(h:iY N w t [.int .i64 k,vf]):∃a n c,vf=.slice a n c:=by
 cases t;rw[gV] at h;obtain⟨v,e,a,c,rfl,-⟩:=h;cases e;exact⟨_,_,_,rfl⟩
theorem fldInfo:(Tryz.prog.info? 105).map (fun i=>(i.zero,i.size,i.bytes))=some (some (oBx26 ByteArray.empty 0 none 0 0),3,48):=YN
theorem bxT2{w:World}{b:Nat}{x y:Value}{t:TypeId}(h:w.heap[b]? =some (.cells #[x,y] t)):w.cell? ⟨b,0,none⟩=some x/\w.cell? ⟨b,1,none⟩=some y/\w.frozen? ⟨b,0,none⟩=false/\w.frozen? ⟨b,1,none⟩=false:=
 ⟨(bx h 0 rfl).1,(bx h 1 rfl).1,(bx h 0 (u:=x) rfl).2,(bx h 1 (u:=y) rfl).2⟩
theorem bxT3{w:World}{b:Nat}{x y z:Value}{t:TypeId}(h:w.heap[b]? =some (.cells #[x,y,z] t)):w.cell? ⟨b,0,none⟩=some x/\w.cell? ⟨b,1,none⟩=some y/\w.cell? ⟨b,2,none⟩=some z/\w.frozen? ⟨b,0,none⟩=false/\w.frozen? ⟨b,1,none⟩=false/\w.frozen? ⟨b,2,none⟩=false:=
 ⟨(bx h 0 rfl).1,(bx h 1 rfl).1,(bx h 2 rfl).1,(bx h 0 (u:=x) rfl).2,(bx h 1 (u:=y) rfl).2,(bx h 2 (u:=z) rfl).2⟩
def TypedOk(p:Prs)(f:Nat):Prop:=∀(i:Nat)(w:World),p.At w i->p.l.length<f+i->Calls Tryz.prog 115 #[.pointer (some ⟨p.pb,0,none⟩)] w
 (Ran p.S w (fK p.l f i) fun t j e w'=>∃k sa sn sc,e=.returned (.agg #[.int .i64 k,.slice sa sn sc])/\iY (bQ w.heap.size) w' t [.int .i64 k,.slice sa sn sc]/\p.At w' j/\i<j)
structure TyL (p:Prs) (W:World) (b3 B:Nat) (fs:List Fld) (css:List (List Value)) (v:Value) (wr:World):Prop where
 off:Off p.S W wr
 res:wr.heap[W.heap.size]? =some (kE 0 none 0 0)
 loc:wr.heap[b3]? =some (.cells #[.int .i64 2,v] 45)
 acc:Gro 3 105 gS B fs css v wr
 b3:W.heap.size<b3/\b3<B
 pb:p.pb<W.heap.size
 few:fs.length<=8
 val:(fs=[]/\v=.slice none 0 0)\/∃m g cap,fs.length=m+1/\v=.slice (some ⟨g,0,none⟩) (m+1) cap
section
variable {p:Prs} {W wr w':World} {b3 B:Nat} {fs:List Fld} {css:List (List Value)} {v:Value}
theorem TyL.next(h:TyL p W b3 B fs css v wr)(ho:Off p.S wr w'):TyL p W b3 B fs css v w':=
 ⟨h.off.trans ho,ho.heap (fun e=>by have:=h.pb;have e:W.heap.size=p.pb:=e;omega) h.res,ho.heap (fun e=>by have:=h.pb;have:=h.b3;have e:b3=p.pb:=e;omega) h.loc,
  h.acc.stays aZ (dF.of_off ho fun b hb=>.inl (by have:=h.pb;have:=h.b3;have hb:b=p.pb:=hb;omega)),h.b3,h.pb,h.few,h.val⟩
theorem TyL.last(h:TyL p W b3 B fs css v wr){m g cap:Nat}(hm:fs.length=m+1)(hv:v=.slice (some ⟨g,0,none⟩) (m+1) cap):wr.cell? ⟨g,m*3,none⟩=some (.string (jR fs)):=by
 obtain⟨a,c,e,-,-,h3⟩:=h.acc.row aZ;rw[hv] at e;obtain⟨b,o,ha,-,hc⟩:=h3 (fun e=>by rw[e] at hm;simp at hm);injection e with e1 e2 e3
 rw[ha] at e1;cases e1;obtain⟨x,hx,-⟩:=getElem?_of_lt (l:=fs) (k:=m) YM;obtain⟨cs,⟨ct,rfl,-⟩,-,hj⟩:=hc m x hx;have:=hj 0 (.string x.1) rfl
 have hl:jR fs=x.1:=by
  unfold jR;rw[List.getLast?_eq_getElem?,hm,show m+1-1=m by omega,hx];rfl
 rw[hl];simpa using this
end
theorem qK{p:Prs}{W w:World}{r:PR Ty}{i j:Nat}{t:Ty}{k:Int}{sa:Option Addr}{sn sc:Nat}{N:Nat->Prop}(hr:r=.ok (t,j))(GA:i<j)(ho:Off p.S W w)(ha:p.At w j)(hW:p.At W i)(ht:iY N w t [.int .i64 k,.slice sa sn sc])(hN:∀b,N b->W.heap.size<b):
  Ran p.S W r (fun t j e w'=>∃k sa sn sc,e=.returned (.agg #[.int .i64 k,.slice sa sn sc])/\iY (bQ W.heap.size) w' t [.int .i64 k,.slice sa sn sc]/\p.At w' j/\i<j) (.returned (.agg #[.int .i64 k,.slice sa sn sc])) ((w.setCell ⟨W.heap.size,0,none⟩ (.int .i64 k)).setCell ⟨W.heap.size,1,none⟩ (.slice sa sn sc)):=by
 have rS:Off (fun b=>b=W.heap.size) w ((w.setCell ⟨W.heap.size,0,none⟩ (.int .i64 k)).setCell ⟨W.heap.size,1,none⟩ (.slice sa sn sc)):=(Off.setCell (S:=fun b=>b=W.heap.size) w rfl).trans (Off.setCell (S:=fun b=>b=W.heap.size) _ rfl);refine Ran.good hr ⟨k,sa,sn,sc,rfl,fU _ _ _ _ _ _ (fun b hb _=>⟨Nat.le_of_lt (hN b hb),fun o v hv=>rS.cell (fun e=>by have:=hN b hb;omega) hv⟩) ht,?_,GA⟩ ?_
 ·exact ha.off rS (fun e=>by have:=hW.blt;omega) (fun e=>by have:=dS (hW.toks i _ hW.tok).1.1;omega) (fun k hk e=>by have:=hW.glob.big;omega)
 exact Off.fresh ((ho.or _).trans (rS.mono fun b hb=>.inr (Nat.le_of_eq hb.symm))) (Nat.le_refl _)
theorem Prs.At.above{p:Prs}{W w w':World}{i j:Nat}(hW:p.At W i)(h:p.At w j)(ho:Off (fun k=>W.heap.size<=k) w w'):p.At w' j:=
 h.off ho (fun e=>by have:=hW.blt;omega) (fun e=>by have:=dS (hW.toks i _ hW.tok).1.1;omega) (fun k hk e=>by have:=hW.glob.big;omega)
theorem fL.off{α:Type}{enc:(Nat->Prop)->World->α->List Value->Prop}(he:fL enc){S N:Nat->Prop}{w w':World}{x:α}{cs:List Value}(h:enc N w x cs)(ho:Off S w w')(hS:∀b,S b->¬N b):enc N w' x cs:=
 he _ _ _ _ _ _ (fun b hb _=>⟨hb,fun _ _ hv=>ho.cell (fun hs=>hS b hs hb) hv⟩) h
theorem fL.wide{α:Type}{enc:(Nat->Prop)->World->α->List Value->Prop}(he:fL enc){N N':Nat->Prop}{w:World}{x:α}{cs:List Value}(h:enc N w x cs)(hN:∀b,N b->b<w.heap.size->N' b):enc N' w x cs:=
 he _ _ _ _ _ _ (fun b hb hl=>⟨hN b hb hl,fun _ _ hv=>hv⟩) h
theorem TyL.added{p:Prs}{W w9 sV:World}{b3 B g cap:Nat}{fs:List Fld}{css:List (List Value)}{v:Value}{x:Fld}{news:List Value}(h:TyL p W b3 B fs css v w9)(hfew:fs.length<8)(hx:gS (mO B v) w9 x news)(hl:news.length=3)
  (rP:sV.ownsRow B 105 3 (.slice (some ⟨g,0,none⟩) (fs.length+1) cap) (fs.length+1) (css.flatten++news)) (rN:w9.grownBy sV v.ownBlock) (sD:v.ownBlock=some g\/g=w9.heap.size):
  TyL p W b3 B (fs++[x]) (css++[news]) (.slice (some ⟨g,0,none⟩) (fs.length+1) cap) (sV.setCell ⟨b3,1,none⟩ (.slice (some ⟨g,0,none⟩) (fs.length+1) cap)):=by
 have hA:=h.acc.added aZ hx hl rP rN sD;have tQ:=h.acc.big;have hb:=h.b3;have rU:=h.acc.lt;have o1:Off (fun k=>B<=k) w9 sV:=⟨rN.os,rN.tape,rN.output,rN.size,fun k hk hn=>rN.block k hk (fun e=>hn (rU k e.symm).1)⟩;have o2:Off (fun k=>k=b3) sV (sV.setCell ⟨b3,1,none⟩ (.slice (some ⟨g,0,none⟩) (fs.length+1) cap)):=Off.setCell (S:=fun k=>k=b3) sV rfl;refine⟨?_,?_,?_,hA.stays aZ (dF.of_off o2 fun b rQ=>.inl YM),hb,h.pb,Y9,.inr ⟨fs.length,g,cap,YR,rfl⟩⟩
 ·exact Off.fresh ((h.off.or _).trans ((o1.mono fun k hk=>.inr YM).trans (o2.mono fun k hk=>.inr YM))) (Nat.le_refl _)
 ·exact o2.heap YM (o1.heap YM h.res)
 rw[aT (o1.heap YM h.loc)];rfl
theorem TyL.step{p:Prs}{W w6 w7 sV:World}{b3 B g cap n1 i0 j2:Nat}{fs:List Fld}{css:List (List Value)}{v:Value}{a:bA}{t:Ty}{k:Int}{sa:Option Addr}{sn sc:Nat}(hW:p.At W i0)(h6:TyL p W b3 B fs css v w6)(hfew:fs.length<8)
  (sF:Off p.S (w6.alloc (dB a 0 none 0 0)) w7) (uE:p.At w7 j2) (uG:iY (bQ (w6.alloc (dB a 0 none 0 0)).heap.size) w7 t [.int .i64 k,.slice sa sn sc]) (hs:a.size<=8000)
  (rP:sV.ownsRow B 105 3 (.slice (some ⟨g,0,none⟩) n1 cap) n1 (css.flatten++[.string a,.int .i64 k,.slice sa sn sc])) (hn:n1=fs.length+1) (rN:(((w7.setCell ⟨w6.heap.size,1,none⟩ (.int .i64 k)).setCell ⟨w6.heap.size,2,none⟩ (.slice sa sn sc)).alloc (dB a k sa sn sc)).grownBy sV v.ownBlock) (sD:v.ownBlock=some g\/g=w7.heap.size+1):
  sV.heap[b3]? =some (.cells #[.int .i64 2,v] 45)/\TyL p W b3 B (fs++[(a,t)]) (css++[[.string a,.int .i64 k,.slice sa sn sc]]) (.slice (some ⟨g,0,none⟩) n1 cap) (sV.setCell ⟨b3,1,none⟩ (.slice (some ⟨g,0,none⟩) n1 cap))/\
  p.At (sV.setCell ⟨b3,1,none⟩ (.slice (some ⟨g,0,none⟩) n1 cap)) j2/\iY (bQ (w6.heap.size+1)) (sV.setCell ⟨b3,1,none⟩ (.slice (some ⟨g,0,none⟩) n1 cap)) t [.int .i64 k,.slice sa sn sc]/\
  (sV.setCell ⟨b3,1,none⟩ (.slice (some ⟨g,0,none⟩) n1 cap)).heap[w6.heap.size]? =some (dB a k sa sn sc):=by
 subst hn;have hb:=h6.b3;have tQ:=h6.acc.big;have wQ:=h6.pb;have rU:=h6.acc.lt;have tK:(w6.alloc (dB a 0 none 0 0)).heap.size=w6.heap.size+1:=YR;have o7:Off p.S w6 w7:=(Ba (aA w6 (dB a 0 none 0 0))).trans sF;have JX:w6.heap.size+1<=w7.heap.size:=by have:=sF.size;omega
 have o8:Off (fun b=>b=w6.heap.size) w7 ((w7.setCell ⟨w6.heap.size,1,none⟩ (.int .i64 k)).setCell ⟨w6.heap.size,2,none⟩ (.slice sa sn sc)):=(Off.setCell (S:=fun b=>b=w6.heap.size) w7 rfl).trans (Off.setCell (S:=fun b=>b=w6.heap.size) _ rfl);have o9:Off (fun b=>b=w6.heap.size) w7 (((w7.setCell ⟨w6.heap.size,1,none⟩ (.int .i64 k)).setCell ⟨w6.heap.size,2,none⟩ (.slice sa sn sc)).alloc (dB a k sa sn sc)):=o8.trans (Ba (aA _ _));have O9:Off p.S w6 (((w7.setCell ⟨w6.heap.size,1,none⟩ (.int .i64 k)).setCell ⟨w6.heap.size,2,none⟩ (.slice sa sn sc)).alloc (dB a k sa sn sc)):=Off.fresh ((o7.or w6.heap.size).trans (o9.mono fun b hb=>.inr YM)) (Nat.le_refl _);have h9:=h6.next O9
 have hx:gS (mO B v) (((w7.setCell ⟨w6.heap.size,1,none⟩ (.int .i64 k)).setCell ⟨w6.heap.size,2,none⟩ (.slice sa sn sc)).alloc (dB a k sa sn sc)) (a,t) [.string a,.int .i64 k,.slice sa sn sc]:=by
  exact WT
 have CT:(((w7.setCell ⟨w6.heap.size,1,none⟩ (.int .i64 k)).setCell ⟨w6.heap.size,2,none⟩ (.slice sa sn sc)).alloc (dB a k sa sn sc)).heap.size=w7.heap.size+1:=YR;have hT:=h9.added hfew hx rfl rP rN aBm;have H9:w7.heap[w6.heap.size]? =some (dB a 0 none 0 0):=sF.heap (fun e=>by have e:w6.heap.size=p.pb:=e;omega) (bY w6 (dB a 0 none 0 0))
 have hf8:(((w7.setCell ⟨w6.heap.size,1,none⟩ (.int .i64 k)).setCell ⟨w6.heap.size,2,none⟩ (.slice sa sn sc)).alloc (dB a k sa sn sc)).heap[w6.heap.size]? =some (dB a k sa sn sc):=by
  refine aH (aA _ _) ?_;rw[aT (aT H9 _) _];rfl
 have AT:Off (fun b=>B<=b/\b<w6.heap.size) (((w7.setCell ⟨w6.heap.size,1,none⟩ (.int .i64 k)).setCell ⟨w6.heap.size,2,none⟩ (.slice sa sn sc)).alloc (dB a k sa sn sc)) sV:=⟨rN.os,rN.tape,rN.output,rN.size,fun b hb hn=>rN.block b hb (fun e=>hn (by have:=rU b e.symm;exact this))⟩;have N1:Off (fun b=>b=b3) sV (sV.setCell ⟨b3,1,none⟩ (.slice (some ⟨g,0,none⟩) (fs.length+1) cap)):=Off.setCell (S:=fun b=>b=b3) sV rfl;refine⟨AT.heap YM h9.loc,hT,?_,?_,?_⟩
 ·exact hW.above uE ((o9.mono fun b hb=>YM).trans ((AT.mono fun b hb=>YM).trans (N1.mono fun b hb=>YM)))
 ·rw[tK] at uG;exact fU.off uG ((o9.mono (S':=fun b=>b<=w6.heap.size) fun b hb=>YM).trans ((AT.mono fun b hb=>YM).trans (N1.mono fun b hb=>YM))) (fun b hb hn=>by have hn:w6.heap.size+1<=b:=hn;omega)
 exact N1.heap YM (AT.heap YM hf8)
theorem jX{l:List Tok}{i:Nat}{than:bA}{any:Bool}(hq:cP l i=false):fP l i than any=.error ((aL l i).pos,11):=by unfold fP;rw[hq];rfl
theorem Ran.bad'{α:Type}{S:Nat->Prop}{w w':World}{r:PR α}{V:α->Nat->Ending->World->Prop}{x:Int×Int}(hr:r=.error x)(ho:Off S w w'):
  Ran S w r V (.panicked [{v:=.iface 144 (.agg #[.int .i64 x.1,.int .i64 x.2]),recovered:=false}]) w':=.inl ⟨x,hr,rfl,ho⟩
theorem typed_int(p:Prs)(f:Nat)(w:World)(i:Nat)(h:p.At w i)(hq:isP p.l i kIntW=true):Calls Tryz.prog 115 #[.pointer (some ⟨p.pb,0,none⟩)] w
  (Ran p.S w (fK p.l (f+1) i) fun t j e w'=>∃k sa sn sc,e=.returned (.agg #[.int .i64 k,.slice sa sn sc])/\iY (bQ w.heap.size) w' t [.int .i64 k,.slice sa sn sc]/\p.At w' j/\i<j):=by
 have HR:Hid (fK p.l (f+1) i=.ok (.mk 0 [],i+1)):=zh (by unfold fK;rw[if_pos hq]);have HH:=zh (gM p (w.alloc (kE 0 none 0 0)) i kIntW (h.later (aA _ _)) hq);have HS:=zh h;have HO:=zh (Ba (S:=p.S) (aA w (kE 0 none 0 0)));have HB:=zh (bY w (kE 0 none 0 0));clear h hq;go_enter Tryz.func115,Tryz.ntmps115;go_wp2_with(go_at_call 120;refine HH.out.mono ?_;rintro e w1 ⟨rfl,sG,rX⟩;have rR:=rX.heap aAi HB.out;obtain⟨c0,c1,f0,f1⟩:=bxT2 rR);refine bodyPost_ret (v:=.agg #[.int .i64 0,.slice none 0 0]) (by simp[results,Tryz.results115,go_sem,c0,c1]) rfl ?_;refine qK (N:=fun _=>False) HR.out YM (HO.out.trans rX) sG HS.out aAZ (fun b hb=>hb.elim)
theorem typed_bool(p:Prs)(f:Nat)(w:World)(i:Nat)(h:p.At w i)(wI:isP p.l i kIntW=false)(hq:isP p.l i kBool=true):Calls Tryz.prog 115 #[.pointer (some ⟨p.pb,0,none⟩)] w
  (Ran p.S w (fK p.l (f+1) i) fun t j e w'=>∃k sa sn sc,e=.returned (.agg #[.int .i64 k,.slice sa sn sc])/\iY (bQ w.heap.size) w' t [.int .i64 k,.slice sa sn sc]/\p.At w' j/\i<j):=by
 have HR:Hid (fK p.l (f+1) i=.ok (.mk 1 [],i+1)):=zh (by unfold fK;rw[if_neg (by rw[wI];simp),if_pos hq]);have HH0:=zh (bG p (w.alloc (kE 0 none 0 0)) i kIntW (h.later (aA _ _)) wI);have HH:=zh (fun W(hW:p.At W i)=>gM p W i kBool hW hq);have HS:=zh h;have HO:=zh (Ba (S:=p.S) (aA w (kE 0 none 0 0)));have HB:=zh (bY w (kE 0 none 0 0));clear h hq wI;go_enter Tryz.func115,Tryz.ntmps115;go_wp2_with(first|(go_at_call 120;refine(HH.out w1 sG).mono ?_;rintro e w2 ⟨rfl,sS,rS⟩;have rQ:=rS.heap aAi rR;obtain⟨c0,c1,f0,f1⟩:=bxT2 rQ)|(go_at_call 120;refine HH0.out.mono ?_;rintro e w1 ⟨rfl,sG,rX⟩;have rR:=rX.heap aAi HB.out));refine bodyPost_ret (v:=.agg #[.int .i64 1,.slice none 0 0]) (by simp[results,Tryz.results115,go_sem,c0,c1]) rfl ?_;refine qK (N:=fun _=>False) HR.out YM (HO.out.trans (rX.trans rS)) sS HS.out aAZ (fun b hb=>hb.elim)
theorem typed_more(p:Prs)(f:Nat)(hf:f<=8010)(xG:TypedOk p f)(w:World)(i:Nat)(h:p.At w i)(uK:p.l.length<f+1+i)(wI:isP p.l i kIntW=false)(hq:isP p.l i kBool=false):Calls Tryz.prog 115 #[.pointer (some ⟨p.pb,0,none⟩)] w
  (Ran p.S w (fK p.l (f+1) i) fun t j e w'=>∃k sa sn sc,e=.returned (.agg #[.int .i64 k,.slice sa sn sc])/\iY (bQ w.heap.size) w' t [.int .i64 k,.slice sa sn sc]/\p.At w' j/\i<j):=by
 obtain⟨i0,xK,vA,tF,sY⟩:=info_parts fldInfo;have HR:Hid (fK p.l (f+1) i=(eB p.l i bH).bnd fun _ j=>if isP p.l j dH then .ok (.mk 2 [],j+1) else eD p.l (fK p.l f) (p.l.length+1) [] j):=zh (by rw[fK];rw[if_neg (by rw[wI];simp),if_neg aAI]);have HRec:=zh xG;have HH0:=zh (bG p (w.alloc (kE 0 none 0 0)) i kIntW (h.later (aA _ _)) wI);have HH:=zh (fun W(hW:p.At W i)=>bG p W i kBool hW hq);have R0:=zh (fun W(hW:p.At W i)=>eA p W i bH hW);have HS:=zh h;have HO:=zh (Ba (S:=p.S) (aA w (kE 0 none 0 0)));have HB:=zh (bY w (kE 0 none 0 0));have rO:w.heap.size≠p.pb:=ZC;clear h hq wI xG;go_enter Tryz.func115,Tryz.ntmps115;go_wp2_with(first|(go_at_call 110;refine(R0.out w2 sS).mono ?_;rintro e w3 (⟨x,hx,rfl,sB⟩|⟨⟨⟩,j,hx,⟨rfl,uF⟩,sB⟩))|(go_at_call 120;refine(oF p (w3.alloc (kE 2 none 0 0)) j dH (uF.later (aA _ _))).mono ?_;rintro e w4 ⟨rfl,uA,rY⟩;have hlt3:=uF.blt;have SW:=zh (rY.heap (by intro e;have e:w3.heap.size=p.pb:=e;omega) (bY w3 (kE 2 none 0 0)));have hr4:=zh (rY.heap rO (aH (aA w3 (kE 2 none 0 0)) (sB.heap rO (rS.heap rO (rX.heap rO HB.out)))));obtain⟨c0,c1,f0,f1⟩:=bxT2 SW.out;obtain⟨d0,d1,g0,g1⟩:=bxT2 hr4.out)|(go_at_call 120;refine(HH.out w1 sG).mono ?_;rintro e w2 ⟨rfl,sS,rS⟩)|(go_at_call 120;refine HH0.out.mono ?_;rintro e w1 ⟨rfl,sG,rX⟩))
 ·exact⟨rfl,Ran.bad (HR.out.trans (PR.bnd_bad hx)) (HO.out.trans (rX.trans (rS.trans sB)))⟩
 ·rename_i KU;have hj:j=i+1:=(dJ hx).1;rw[if_pos KU] at uA;have GQ:Hid (fK p.l (f+1) i=.ok (.mk 2 [],j+1)):=zh (HR.out.trans ((PR.bnd_ok hx).trans (if_pos KU)));refine bodyPost_ret (v:=.agg #[.int .i64 2,.slice none 0 0]) (by simp[results,Tryz.results115,go_sem,d0,d1]) rfl ?_;refine qK (N:=fun _=>False) GQ.out YM (HO.out.trans (rX.trans (rS.trans (sB.trans ((Ba (aA w3 (kE 2 none 0 0))).trans rY))))) uA HS.out aAZ (fun b hb=>hb.elim)
 rename_i KU;have hj:j=i+1:=(dJ hx).1;rw[if_neg (by rw[KU];simp)] at uA;have GQ:Hid (fK p.l (f+1) i=eD p.l (fK p.l f) (p.l.length+1) [] j):=zh (HR.out.trans ((PR.bnd_ok hx).trans (if_neg (by rw[KU];simp))));have IN:=zh (HO.out.trans (rX.trans (rS.trans (sB.trans ((Ba (aA w3 (kE 2 none 0 0))).trans rY)))));have hsz3:w.heap.size<w3.heap.size:=(Array.getElem?_eq_some_iff.1 (sB.heap rO (rS.heap rO (rX.heap rO HB.out)))).1;have OD:w3.heap.size<w4.heap.size:=(Array.getElem?_eq_some_iff.1 SW.out).1;have HJ:=zh hj;clear hj;have QG:=zh uA;have HTy:Hid (TyL p w w3.heap.size w4.heap.size [] [] (.slice none 0 0) w4):=zh ⟨IN.out,hr4.out,SW.out,Gro.first _ _ _ _,⟨hsz3,OD⟩,HS.out.blt,Nat.zero_le _,.inl ⟨rfl,rfl⟩⟩;clear rX rS sB rY sG sS uF uA SW hr4 IN HR KU c0 c1 f0 f1 d0 d1 g0 g1 HH0 HH R0 HB HO hx;generalize w3.heap.size=b3 at *;generalize w4.heap.size=B at *;go_loopw [4] (fun s4 wr=>∃(q F:Nat)(fs:List Fld)(css:List (List Value))(v:Value),Hid (TyL p w b3 B fs css v wr/\p.At wr q/\fK p.l (f+1) i=eD p.l (fK p.l f) (F+1) fs q/\p.l.length<=F+q/\i<q)) (fun _ wr=>p.l.length-posOf wr p.pb)
 case atStart=>exact⟨j,p.l.length,[],[],_,zh ⟨HTy.out,QG.out,GQ.out,YM,by have:=HJ.out;omega⟩⟩
 case round=>
  obtain⟨q,F,fs,css,v,HT⟩:=hrel;rename World=>wr
  have hlen:=HT.out.2.1.len;have KU:=HT.out.2.2.2;rcases HT.out.1.val with⟨rfl,rfl⟩|⟨m,g,cap,hm,rfl⟩
  ·cases xH:cP p.l q with
   |false=>
    as_aux_lemma=>
     go_wp2_with(first|(go_at_call 182;refine(jF p wr q HT.out.2.1).mono ?_;rintro e w5 ⟨rfl,hb5⟩;rw[xH];have wL:=zh (HT.out.2.1.later hb5);have IE:=zh (HT.out.1.next (Ba hb5));obtain⟨c0,c1,f0,f1⟩:=bxT2 IE.out.loc)|(go_at_call 183;refine(oN p w5 q ⟨#[]⟩ false wL.out).mono ?_;rintro e w6 (⟨x,hx,rfl,sH⟩|⟨a,j1,hx,⟨rfl,vN,J0⟩,sH⟩)<;>have GK:=zh (IE.out.next sH)))
     ·exact YD
     rw[jX xH] at hx;cases hx
   |true=>
    as_aux_lemma=>
     go_wp2_with(first|(go_at_call 182;refine(jF p wr q HT.out.2.1).mono ?_;rintro e w5 ⟨rfl,hb5⟩;rw[xH];have wL:=zh (HT.out.2.1.later hb5);have IE:=zh (HT.out.1.next (Ba hb5));obtain⟨c0,c1,f0,f1⟩:=bxT2 IE.out.loc)|(go_at_call 49;refine(gN p w5 q _ _ wL.out).mono ?_;rintro e w5' (⟨GB,rfl,rfl⟩|⟨GB,rfl,O0⟩)<;>first|(cases GB;done)|skip)|(go_at_call 183;refine(oN p w5 q ⟨#[]⟩ false wL.out).mono ?_;rintro e w6 (⟨x,hx,rfl,sH⟩|⟨a,j1,hx,⟨rfl,vN,J0⟩,sH⟩)<;>have GK:=zh (IE.out.next sH))|(go_at_call 115;have NK:=laterP_ok hx;refine(HRec.out j1 (w6.alloc (dB a 0 none 0 0)) (vN.later (aA _ _)) YM).mono ?_;rintro e w7 (⟨x2,rV,rfl,sF⟩|⟨t,j2,rV,⟨k,sa,sn,sc,rfl,uG,uE,OQ⟩,sF⟩)<;>have H9:=zh (sF.heap (fun e=>aAz) (bY w6 (dB a 0 none 0 0)))<;>have PN:=zh (GK.out.next ((Ba (aA w6 (dB a 0 none 0 0))).trans sF))<;>have uB:=GK.out.acc.big<;>have hn6:¬b3=w6.heap.size:=YM<;>have hn6':¬w6.heap.size=b3:=YM<;>obtain⟨c0',c1',f0',f1'⟩:=bxT2 PN.out.loc<;>obtain⟨d0,d1,d2,e0,e1,e2⟩:=bxT3 H9.out)|(at_builtin;have O9:Off p.S w6 (((w7.setCell ⟨w6.heap.size,1,none⟩ (.int .i64 k)).setCell ⟨w6.heap.size,2,none⟩ (.slice sa sn sc)).alloc (dB a k sa sn sc)):=Off.fresh (((Ba (S:=p.S) (aA w6 (dB a 0 none 0 0))).trans sF).or w6.heap.size |>.trans (((Off.setCell (S:=fun b=>p.S b\/w6.heap.size<=b) w7 (.inr (Nat.le_refl _))).trans (Off.setCell (S:=fun b=>p.S b\/w6.heap.size<=b) _ (.inr (Nat.le_refl _)))).trans (Ba (aA _ _)))) (Nat.le_refl _);have xY:=zh (GK.out.next O9);have tV:=xY.out.acc.big;have sW:=xY.out.acc.own;refine wpList_append_lies _ rfl _ _ 24 rfl B 105 i0 (oBx26 ByteArray.empty 0 none 0 0) 3 48 Tryz.underlying24 xK vA tF sY rfl YM (.slice none 0 0) 0 css.flatten ZV (by simpa using sW) ⟨w7.heap.size,0,none⟩ 1 1 [.string a,.int .i64 k,.slice sa sn sc] ZV rfl (World.news_of_block (cs:=#[.string a,.int .i64 k,.slice sa sn sc]) (t:=105) (fr:=(0,0)) Z9) Y3 YM Y7 YM (by simpa using tV) (w7.heap.size+1) YR ?_))
     ·have sA:=zh (HT.out.2.2.1.trans ((iD xH).trans (PR.bnd_ok (if_pos (show 0<8 by decide)))));have G0:Hid (fP p.l q (jR ([]:List Fld)) (decide (0<([]:List Fld).length))=_):=zh hx;exact⟨rfl,Ran.bad' (sA.out.trans (PR.bnd_bad G0.out)) GK.out.off⟩
     ·have sA:=zh (HT.out.2.2.1.trans ((iD xH).trans (PR.bnd_ok (if_pos (show 0<8 by decide)))));have G0:Hid (fP p.l q (jR ([]:List Fld)) (decide (0<([]:List Fld).length))=_):=zh hx;exact⟨rfl,Ran.bad' (sA.out.trans ((PR.bnd_ok G0.out).trans (PR.bnd_bad rV))) PN.out.off⟩
     have sA:=zh (HT.out.2.2.1.trans ((iD xH).trans (PR.bnd_ok (if_pos (show 0<8 by decide)))));have G0:Hid (fP p.l q (jR ([]:List Fld)) (decide (0<([]:List Fld).length))=_):=zh hx;intro g' cap' sV rP rN sD _;obtain⟨CK,L1,wD,EB,LK⟩:=GK.out.step HS.out YO sF uE uG J0 rP rfl rN sD;obtain⟨m0,m1,n0,n1⟩:=bxT2 CK;obtain⟨q0,q1,q2,r0,r1,r2⟩:=bxT3 LK;have UD:=zh L1;have sL:=zh rV;have HMr:=zh (more_any p _ j2 _ t k _ dH wD EB (Nat.le_trans (nB f _ t j2 rV) YM));clear rP rN sD CK L1 wD EB LK uG uE sF H9 PN O9 xY tV sW c0' c1' f0' f1' d0 d1 d2 e0 e1 e2 hx rV;go_wp2_with(go_at_call 184;refine HMr.out.mono ?_;rintro e tH (⟨x3,rW,rfl,sK⟩|⟨bb,j3,rW,⟨rfl,tR⟩,sK⟩)<;>have zX:=zh (UD.out.next sK)<;>obtain⟨y0,y1,z0,z1⟩:=bxT2 zX.out.loc<;>obtain⟨u0',u1',v0',v1'⟩:=bxT2 zX.out.res)
     ·exact X6
     ·rename_i AE;subst AE;have hR:=sA.out.trans ((PR.bnd_ok G0.out).trans ((PR.bnd_ok sL.out).trans ((PR.bnd_ok rW).trans (if_pos rfl))));have SZ:=qZ rW;refine bodyPost_ret (v:=.agg #[.int .i64 2,.slice (some ⟨g',0,none⟩) 1 cap']) (by simp[results,Tryz.results115,go_sem,u0',u1']) rfl ?_;exact XR
     exact WJ
  have hmb:(m:Int)+1<=8:=by have:=HT.out.1.few;omega
  cases xH:cP p.l q with
  |false=>
   as_aux_lemma=>
    go_wp2_with(first|(go_at_call 182;refine(jF p wr q HT.out.2.1).mono ?_;rintro e w5 ⟨rfl,hb5⟩;rw[xH];have wL:=zh (HT.out.2.1.later hb5);have IE:=zh (HT.out.1.next (Ba hb5));obtain⟨c0,c1,f0,f1⟩:=bxT2 IE.out.loc;have cl:=IE.out.last hm rfl)|(go_at_call 183;refine(oN p w5 q (jR fs) true wL.out).mono ?_;rintro e w6 (⟨x,hx,rfl,sH⟩|⟨a,j1,hx,⟨rfl,vN,J0⟩,sH⟩)<;>have GK:=zh (IE.out.next sH)))
    ·exact YD
    rw[jX xH] at hx;cases hx
  |true=>
   as_aux_lemma=>
    go_wp2_with(first|(go_at_call 182;refine(jF p wr q HT.out.2.1).mono ?_;rintro e w5 ⟨rfl,hb5⟩;rw[xH];have wL:=zh (HT.out.2.1.later hb5);have IE:=zh (HT.out.1.next (Ba hb5));obtain⟨c0,c1,f0,f1⟩:=bxT2 IE.out.loc;have cl:=IE.out.last hm rfl)|(go_at_call 49;refine(gN p w5 q _ _ wL.out).mono ?_;rintro e w5' (⟨GB,rfl,rfl⟩|⟨GB,rfl,O0⟩))|(go_at_call 183;refine(oN p w5 q (jR fs) true wL.out).mono ?_;rintro e w6 (⟨x,hx,rfl,sH⟩|⟨a,j1,hx,⟨rfl,vN,J0⟩,sH⟩)<;>have GK:=zh (IE.out.next sH))|(go_at_call 115;have NK:=laterP_ok hx;refine(HRec.out j1 (w6.alloc (dB a 0 none 0 0)) (vN.later (aA _ _)) YM).mono ?_;rintro e w7 (⟨x2,rV,rfl,sF⟩|⟨t,j2,rV,⟨k,sa,sn,sc,rfl,uG,uE,OQ⟩,sF⟩)<;>have H9:=zh (sF.heap (fun e=>aAz) (bY w6 (dB a 0 none 0 0)))<;>have PN:=zh (GK.out.next ((Ba (aA w6 (dB a 0 none 0 0))).trans sF))<;>have uB:=GK.out.acc.big<;>have hn6:¬b3=w6.heap.size:=YM<;>have hn6':¬w6.heap.size=b3:=YM<;>obtain⟨c0',c1',f0',f1'⟩:=bxT2 PN.out.loc<;>obtain⟨d0,d1,d2,e0,e1,e2⟩:=bxT3 H9.out)|(at_builtin;have O9:Off p.S w6 (((w7.setCell ⟨w6.heap.size,1,none⟩ (.int .i64 k)).setCell ⟨w6.heap.size,2,none⟩ (.slice sa sn sc)).alloc (dB a k sa sn sc)):=Off.fresh (((Ba (S:=p.S) (aA w6 (dB a 0 none 0 0))).trans sF).or w6.heap.size |>.trans (((Off.setCell (S:=fun b=>p.S b\/w6.heap.size<=b) w7 (.inr (Nat.le_refl _))).trans (Off.setCell (S:=fun b=>p.S b\/w6.heap.size<=b) _ (.inr (Nat.le_refl _)))).trans (Ba (aA _ _)))) (Nat.le_refl _);have xY:=zh (GK.out.next O9);have tV:=xY.out.acc.big;have sW:=xY.out.acc.own;refine wpList_append_lies _ rfl _ _ 24 rfl B 105 i0 (oBx26 ByteArray.empty 0 none 0 0) 3 48 Tryz.underlying24 xK vA tF sY rfl YM (.slice (some ⟨g,0,none⟩) (m+1) cap) (m+1) css.flatten ZV (by simpa[hm] using sW) ⟨w7.heap.size,0,none⟩ 1 1 [.string a,.int .i64 k,.slice sa sn sc] ZV rfl (World.news_of_block (cs:=#[.string a,.int .i64 k,.slice sa sn sc]) (t:=105) (fr:=(0,0)) Z9) Y3 YM Y7 YM (by simpa using tV) (w7.heap.size+1) YR ?_))
    ·have sA:=zh (HT.out.2.2.1.trans ((iD xH).trans (PR.bnd_ok (if_pos (show fs.length<8 by rw[hm];simp at GB;omega)))));have G0:=zh ((congrArg (fP p.l q (jR fs)) (decide_eq_true (show 0<fs.length by omega))).trans hx);exact⟨rfl,Ran.bad' (sA.out.trans (PR.bnd_bad G0.out)) GK.out.off⟩
    ·have sA:=zh (HT.out.2.2.1.trans ((iD xH).trans (PR.bnd_ok (if_pos (show fs.length<8 by rw[hm];simp at GB;omega)))));have G0:=zh ((congrArg (fP p.l q (jR fs)) (decide_eq_true (show 0<fs.length by omega))).trans hx);exact⟨rfl,Ran.bad' (sA.out.trans ((PR.bnd_ok G0.out).trans (PR.bnd_bad rV))) PN.out.off⟩
    ·have sA:=zh (HT.out.2.2.1.trans ((iD xH).trans (PR.bnd_ok (if_pos (show fs.length<8 by rw[hm];simp at GB;omega)))));have G0:=zh ((congrArg (fP p.l q (jR fs)) (decide_eq_true (show 0<fs.length by omega))).trans hx);intro g' cap' sV rP rN sD _;obtain⟨CK,L1,wD,EB,LK⟩:=GK.out.step HS.out (by rw[hm];simp at GB;omega) sF uE uG J0 rP (by rw[hm]) rN sD;obtain⟨m0,m1,n0,n1⟩:=bxT2 CK;obtain⟨q0,q1,q2,r0,r1,r2⟩:=bxT3 LK;have UD:=zh L1;have sL:=zh rV;have HMr:=zh (more_any p _ j2 _ t k _ dH wD EB (Nat.le_trans (nB f _ t j2 rV) YM));clear rP rN sD CK L1 wD EB LK uG uE sF H9 PN O9 xY tV sW c0' c1' f0' f1' d0 d1 d2 e0 e1 e2 hx rV;go_wp2_with(go_at_call 184;refine HMr.out.mono ?_;rintro e tH (⟨x3,rW,rfl,sK⟩|⟨bb,j3,rW,⟨rfl,tR⟩,sK⟩)<;>have zX:=zh (UD.out.next sK)<;>obtain⟨y0,y1,z0,z1⟩:=bxT2 zX.out.loc<;>obtain⟨u0',u1',v0',v1'⟩:=bxT2 zX.out.res)
     ·exact X6
     ·rename_i AE;subst AE;have hR:=sA.out.trans ((PR.bnd_ok G0.out).trans ((PR.bnd_ok sL.out).trans ((PR.bnd_ok rW).trans (if_pos rfl))));have SZ:=qZ rW;refine bodyPost_ret (v:=.agg #[.int .i64 2,.slice (some ⟨g',0,none⟩) (m+1+1) cap']) (by simp[results,Tryz.results115,go_sem,u0',u1']) rfl ?_;exact XR
     exact WJ
    exact⟨rfl,Ran.bad (HT.out.2.2.1.trans ((iD xH).trans (PR.bnd_bad (if_neg (show ¬fs.length<8 by rw[hm];simp at GB;omega))))) (IE.out.off.trans (Ba O0))⟩
theorem typed_ok(p:Prs):∀f,f<=8010->TypedOk p f
 |0,_=>fun i w h hf=>by have:=h.lt;omega
 |f+1,hf=>fun i w h uK=>by
  have hr:=typed_ok p f YM
  cases h0:isP p.l i kIntW with
  |true=>exact typed_int p f w i h h0
  |false=>
   cases h1:isP p.l i kBool with
   |true=>exact typed_bool p f w i h h0 h1
   |false=>exact typed_more p f YM hr w i h uK h0 h1
theorem typed_any(p:Prs)(w:World)(i:Nat)(h:p.At w i):Calls Tryz.prog 115 #[.pointer (some ⟨p.pb,0,none⟩)] w
  (Ran p.S w (jV p.l i) fun t j e w'=>∃k sa sn sc,e=.returned (.agg #[.int .i64 k,.slice sa sn sc])/\iY (bQ w.heap.size) w' t [.int .i64 k,.slice sa sn sc]/\p.At w' j/\i<j):=
 typed_ok p (p.l.length+1) (by have:=h.len;omega) i w h YM
theorem mR{l:List Tok}{i j:Nat}{t:Ty}(h:jV l i=.ok (t,j)):bI t<=l.length+1:=nB _ _ _ _ h
end Go.Proofs.YtiionicikdnnpaaGreatDoor
namespace Go.Proofs.YtiionicikdnnpaaGreatDoor
open Go.RowKit
abbrev fX:List bA:=[kIf,mT,oE,nR,dC,cB,iC]
theorem begins_word{l:List Tok}{i:Nat}(h1:(aL l i).kind≠1)(h2:(aL l i).kind≠2)(h3:(aL l i).kind≠3):eP l i=
  ((fX.any fun s=>decide ((aL l i).text=s))||decide (bR (aL l i).text≠0)||aK (aL l i).text):=by
 unfold eP;rw[if_neg h1,if_neg h2,if_neg h3]
theorem kOpen_list:aX.toList=[40]:=by rw[Lib.toList_data]
theorem kLBrace_list:bH.toList=[123]:=by rw[Lib.toList_data]
theorem bwCells(w:World):∀(k:Nat)(x:bA),fX[k]? =some x->(w.alloc (.cells (fX.map Value.string).toArray 9)).cell? ⟨w.heap.size,k,none⟩=some (.string x):=fun k x hx=>by
 rw[cell_of_row _ w.heap.size k _ _ _ (bY w _)];rw[List.getElem?_toArray,List.getElem?_map,hx];rfl
theorem begins_any(p:Prs)(w:World)(i:Nat)(h:p.At w i):Calls Tryz.prog 247 #[.pointer (some ⟨p.pb,0,none⟩)] w fun e w'=>e=.returned (.bool (eP p.l i))/\Below w.heap.size w w':=by
 have HA:=zh h;have HN:=zh (fun W(hW:p.At W i)=>dO p W i hW);have tK:=(h.toks i _ h.tok).2;have HM:=zh (fun W(hW:p.At W i)=>jW (aL p.l i).text W YM hW.glob);have HBt:=zh (fun W(hW:p.At W i)=>jN (aL p.l i).text W hW.spc);have HW:=zh (fun h1 h2 h3=>begins_word (l:=p.l) (i:=i) h1 h2 h3);have sT:Hid ((aL p.l i).kind=1->eP p.l i=true):=zh (fun e=>by unfold eP;rw[if_pos e]);have rZ:Hid ((aL p.l i).kind=2->eP p.l i=(decide ((aL p.l i).text=aX)||decide ((aL p.l i).text=bH))):=zh (fun e=>by unfold eP;rw[if_neg YM,if_pos e]);have tX:Hid ((aL p.l i).kind=3->eP p.l i=false):=zh (fun e=>by unfold eP;rw[if_neg YM,if_neg YM,if_pos e]);clear h tK;generalize eP p.l i=r at HW sT rZ tX ⊢;generalize aL p.l i=t at HN HM HBt HW sT rZ tX;by_cases k1:t.kind=1
 ·have CD:(t.kind==1)=true:=by rw[beq_iff_eq];exact k1
  go_enter Tryz.func247,Tryz.ntmps247;go_wp2_with(go_at_call 50;refine(HN.out w HA.out).mono ?_;rintro e w1 ⟨rfl,rR⟩);go_ret;exact⟨aF (sT.out k1).symm,aC rR (aA _ _)⟩
 by_cases k2:t.kind=2
 ·have k2':(t.kind==2)=true:=by rw[beq_iff_eq];exact k2
  have CD:(t.kind==1)=false:=Y4;have hR:=rZ.out k2;rw[<-eG,<-eG] at hR;have HR:=zh hR;clear hR;go_enter Tryz.func247,Tryz.ntmps247;go_wp2_with(go_at_call 50;refine(HN.out w HA.out).mono ?_;rintro e w1 ⟨rfl,rR⟩)
  ·go_ret;exact⟨aF (by rw[HR.out,kOpen_list,‹t.text.toList=[40]›];rfl),aC rR (aA _ _)⟩
  go_ret;exact⟨aF (by rw[HR.out,kOpen_list,kLBrace_list]),aC rR (aA _ _)⟩
 by_cases k3:t.kind=3
 ·have k3':(t.kind==3)=true:=by rw[beq_iff_eq];exact k3
  have k2':(t.kind==2)=false:=aA6;have CD:(t.kind==1)=false:=Y4;go_enter Tryz.func247,Tryz.ntmps247;go_wp2_with(go_at_call 50;refine(HN.out w HA.out).mono ?_;rintro e w1 ⟨rfl,rR⟩);go_ret;exact⟨aF (tX.out k3).symm,aC rR (aA _ _)⟩
 have k3':(t.kind==3)=false:=by rw[beq_eq_false_iff_ne];exact k3
 have k2':(t.kind==2)=false:=aA6;have CD:(t.kind==1)=false:=Y4;go_enter Tryz.func247,Tryz.ntmps247;go_wp2_with(go_at_call 50;refine(HN.out w HA.out).mono ?_;rintro e w1 ⟨rfl,rR⟩);have HR:=zh (HW.out k1 k2 k3);have HWd:=zh (bwCells (w1.alloc (dT t.kind t.text t.n t.pos)));have HT:=zh (aD (aA (w1.alloc (dT t.kind t.text t.n t.pos)) (.cells (fX.map Value.string).toArray 9)) (bx (bY w1 (dT t.kind t.text t.n t.pos)) 1 (u:=.string t.text) rfl).1);have M6:=zh (aC rR (aC (aA w1 (dT t.kind t.text t.n t.pos)) (aA _ (.cells (fX.map Value.string).toArray 9))));have CQ:=zh (HA.out.later M6.out);have hz:(w1.alloc (dT t.kind t.text t.n t.pos)).heap.size=w1.heap.size+1:=YR;rw[hz] at HWd;have HAny:=zh (fun(k:Nat)(x:bA)(hx:fX[k]? =some x)(e:t.text=x)=>show(fX.any fun s=>decide (t.text=s))=true from List.any_eq_true.2 ⟨x,List.mem_of_getElem? hx,by simp[e]⟩);have HNone:=zh (fun(h:∀x,x∈fX->decide (t.text=x)=false)=>show(fX.any fun s=>decide (t.text=s))=false from by rw[List.any_eq_false];intro x hx;rw[h x hx];simp);clear hz;have hlen:Hid (fX.length=7):=zh rfl;generalize hW2:(w1.alloc (dT t.kind t.text t.n t.pos)).alloc (.cells (fX.map Value.string).toArray 9)=W2 at HWd HT M6 CQ;change Code.wp _ _ _ _ ((w1.alloc (dT t.kind t.text t.n t.pos)).alloc (.cells (fX.map Value.string).toArray 9));rw[hW2];clear hW2 rR;generalize fX=L at *;go_loop [26] (fun idx=>∃k:Nat,k<=7/\idx=.int .i64 k/\Hid (∀x,x∈L.take k->decide (t.text=x)=false)) (fun idx=>7-(intOf idx).toNat)
 case atStart=>exact⟨0,Nat.zero_le _,rfl,zh YR⟩
 case round=>
  obtain⟨k,hk,rfl,HP⟩:=hrel;by_cases rU:k<7
  ·obtain⟨x,hx,-⟩:=getElem?_of_lt (l:=L) (k:=k) (by rw[hlen.out];exact rU);have hc:=HWd.out k x hx;have hT:=HT.out;have HX:=zh hx;clear hx;by_cases he:t.text=x
   ·(have he':(t.text.toList==x.toList)=true:=by rw[eG];exact decide_eq_true he);have HE:=zh he;clear he;go_wp2_with fail;go_ret;exact⟨aF (by rw[HR.out,HAny.out k x HX.out HE.out];rfl),M6.out⟩
   (have he':(t.text.toList==x.toList)=false:=by rw[eG];exact decide_eq_false he);have HE:=zh he;clear he;go_wp2_with fail
   go_round
   (case rel=>exact⟨k+1,YM,YZ,zh (take_no HX.out (decide_eq_false HE.out) HP.out)⟩);case measure=>simp[intOf];omega
  have hk7:k=7:=YM;subst hk7;have HNo:=zh (HNone.out (fun x hx=>HP.out x (by rw[List.take_of_length_le (by rw[hlen.out];decide)];exact hx)));have hT:=HT.out;generalize bR t.text=bv at HBt HR;by_cases hbv:bv=0
  ·(have hbv':(bv != 0)=false:=by rw[hbv];rfl);go_wp2_with(first|(go_at_call 154;refine(HBt.out W2 CQ.out).mono ?_;rintro e w3 ⟨rfl,tI⟩;have HA3:=zh (CQ.out.later tI);have hT3:=aD tI hT)|(go_at_call 17;refine(HM.out w3 HA3.out).mono ?_;rintro e w4 ⟨rfl,rfl⟩));go_ret;exact⟨aF (by rw[HR.out,HNo.out,decide_eq_false (by simpa using hbv)];rfl),aC M6.out tI⟩
  have hbv':(bv != 0)=true:=by rw[bne_iff_ne];exact hbv
  go_wp2_with(go_at_call 154;refine(HBt.out W2 CQ.out).mono ?_;rintro e w3 ⟨rfl,tI⟩);go_ret;exact⟨aF (by rw[HR.out,HNo.out,decide_eq_true (by simpa using hbv)];rfl),aC M6.out tI⟩
end Go.Proofs.YtiionicikdnnpaaGreatDoor
