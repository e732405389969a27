/- Texts of this seat, joined. -/
import Derived.Test.YtiionicikdnnpaaGreatDoorZb
import Derived.Test.YtiionicikdnnpaaGreatDoorProg
import Derived.Lib.Hide
import Derived.WalkSpells
import Derived.BigQuiet
import Derived.Shelf.Abstract
set_option linter.unusedVariables false
set_option linter.unusedSimpArgs false
namespace Go.Proofs.YtiionicikdnnpaaGreatDoor
open Go.RowKit
theorem XB{p:Prop}(h:p:=by
 obtain⟨cs,-,hl,hj⟩:=hc 0 x0 rfl
 exact dS (hj 0 (cs[0]'(by omega)) (List.getElem?_eq_getElem _))):p:=h
theorem aF{a b:Bool}(h:a=b):Ending.returned (.bool a)=.returned (.bool b):=by rw[h]
theorem iJ{k:IntKind}{a b:Int}(h:a=b):Ending.returned (.int k a)=.returned (.int k b):=by rw[h]
theorem nY{a b:bA}(h:a=b):Ending.returned (.string a)=.returned (.string b):=by rw[h]
theorem ret_val{a b:Value}(h:a=b):Ending.returned a=.returned b:=by rw[h]
theorem take_snoc(s:bA)(k:Nat)(h:k<s.size):s.data.toList.take (k+1)=s.data.toList.take k++[s[k]]:=by
 rw[List.take_succ_eq_append_getElem (by simpa using h)];rfl
theorem bcell{W w1:World}(hb:Below W.heap.size W w1):(∀b o,b<W.heap.size->w1.cell? ⟨b,o,none⟩=W.cell? ⟨b,o,none⟩)/\(∀b o,b<W.heap.size->w1.frozen? ⟨b,o,none⟩=W.frozen? ⟨b,o,none⟩):=
 ⟨fun b o h=>hb.cell (p:=⟨b,o,none⟩) h,fun b o h=>hb.frozen (p:=⟨b,o,none⟩) h⟩
theorem dS{w:World}{b o:Nat}{v:Value}(h:w.cell? ⟨b,o,none⟩=some v):b<w.heap.size:=by
 by_cases hb:b<w.heap.size
 ·exact hb
 have:w.heap[b]? =none:=Array.getElem?_eq_none (by omega);simp[World.cell?,this] at h
theorem aD{w w':World}(hb:Below w.heap.size w w'){b o:Nat}{v:Value}(h:w.cell? ⟨b,o,none⟩=some v):w'.cell? ⟨b,o,none⟩=some v:=
 (hb.cell (p:=⟨b,o,none⟩) (dS h)).trans h
theorem aC{a b c:World}(h:Below a.heap.size a b)(k:Below b.heap.size b c):Below a.heap.size a c:=
 h.trans (k.mono h.size)
theorem dR(w:World)(o:Obj):(w.alloc o).heap[w.heap.size]? =some o:=by
 show(w.heap.push o)[w.heap.size]? =some o;simp
theorem aA(w:World)(o:Obj):Below w.heap.size w (w.alloc o):=(Below.refl _ _).alloc (Nat.le_refl _) _
def Row{α:Type}(k:Nat)(enc:World->α->List Value->Prop)(w:World)(v:Value)(l:List α):Prop:=
 ∃a c,v=.slice a l.length c/\l.length<=c/\c<=9223372036854775807/\
  (l≠[]->∃b o,a=some ⟨b,o,none⟩/\∀i x,l[i]? =some x->∃cs,enc w x cs/\cs.length=k/\∀j u,cs[j]? =some u->w.cell? ⟨b,o+i*k+j,none⟩=some u)
theorem Row.later{α:Type}{k:Nat}{enc:World->α->List Value->Prop}{w w':World}{v:Value}{l:List α}(hb:Below w.heap.size w w')
  (he:∀x cs,enc w x cs->enc w' x cs) (h:Row k enc w v l):Row k enc w' v l:=by
 obtain⟨a,c,hv,h1,h2,h3⟩:=h;refine⟨a,c,hv,h1,h2,fun rO=>?_⟩;obtain⟨b,o,ha,hc⟩:=h3 rO;refine⟨b,o,ha,fun i x hx=>?_⟩;obtain⟨cs,e,hl,hj⟩:=hc i x hx;exact⟨cs,he x cs e,hl,fun j u hu=>aD hb (hj j u hu)⟩
def encStr1(_:World)(x:bA)(cs:List Value):Prop:=cs=[.string x]/\x.size<=140737488355328
def Strs(w:World)(v:Value)(l:List bA):Prop:=Row 1 encStr1 w v l
theorem Strs.later{w w':World}{v:Value}{l:List bA}(hb:Below w.heap.size w w')(h:Strs w v l):Strs w' v l:=
 Row.later hb (fun _ _ h=>h) h
def encInt1(_:World)(x:Int)(cs:List Value):Prop:=cs=[.int .i64 x]
def nA(w:World)(v:Value)(l:List Int):Prop:=Row 1 encInt1 w v l
theorem nA.later{w w':World}{v:Value}{l:List Int}(hb:Below w.heap.size w w')(h:nA w v l):nA w' v l:=
 Row.later hb (fun _ _ h=>h) h
theorem Row.cases{α:Type}{k:Nat}{enc:World->α->List Value->Prop}{w:World}{v:Value}{l:List α}(h:Row (k+1) enc w v l):
  (l=[]/\∃a c,v=.slice a 0 c)\/(∃b o c,v=.slice (some ⟨b,o,none⟩) l.length c/\0<l.length/\l.length<=c/\c<=9223372036854775807/\b<w.heap.size/\
   ∀i x,l[i]? =some x->∃cs,enc w x cs/\cs.length=k+1/\∀j u,cs[j]? =some u->w.cell? ⟨b,o+i*(k+1)+j,none⟩=some u):=by
 obtain⟨a,c,hv,h1,h2,h3⟩:=h
 cases l with
 |nil=>exact .inl ⟨rfl,a,c,hv⟩
 |cons x0 l=>
  obtain⟨b,o,ha,hc⟩:=h3 (by simp);refine .inr ⟨b,o,c,by rw[hv,ha],by simp,h1,h2,?_,hc⟩;exact XB
theorem Strs.cases{w:World}{v:Value}{l:List bA}(h:Strs w v l):
  (l=[]/\∃a c,v=.slice a 0 c)\/(∃b o c,v=.slice (some ⟨b,o,none⟩) l.length c/\0<l.length/\l.length<=c/\c<=9223372036854775807/\b<w.heap.size/\
   ∀i x,l[i]? =some x->w.cell? ⟨b,o+i,none⟩=some (.string x)/\x.size<=140737488355328):=by
 rcases Row.cases h with h|⟨b,o,c,hv,h0,h1,h2,hb,hc⟩
 ·exact .inl h
 refine .inr ⟨b,o,c,hv,h0,h1,h2,hb,fun i x hx=>?_⟩;obtain⟨cs,⟨e,hs⟩,-,hj⟩:=hc i x hx;have:=hj 0 (.string x) (by rw[e];rfl);exact⟨by simpa using this,hs⟩
theorem nA.cases{w:World}{v:Value}{l:List Int}(h:nA w v l):
  (l=[]/\∃a c,v=.slice a 0 c)\/(∃b o c,v=.slice (some ⟨b,o,none⟩) l.length c/\0<l.length/\l.length<=c/\c<=9223372036854775807/\b<w.heap.size/\
   ∀i x,l[i]? =some x->w.cell? ⟨b,o+i,none⟩=some (.int .i64 x)):=by
 rcases Row.cases h with h|⟨b,o,c,hv,h0,h1,h2,hb,hc⟩
 ·exact .inl h
 refine .inr ⟨b,o,c,hv,h0,h1,h2,hb,fun i x hx=>?_⟩;obtain⟨cs,e,-,hj⟩:=hc i x hx;have:=hj 0 (.int .i64 x) (by rw[e];rfl);simpa using this
theorem oL{w:World}{v:Value}{l:List bA}(h:Strs w v l){x:bA}(hx:x∈l):x.size<=140737488355328:=by
 rcases h.cases with⟨rfl,-⟩|⟨b,o,c,-,-,-,-,-,hc⟩
 ·cases hx
 obtain⟨i,hi⟩:=List.getElem?_of_mem hx;exact(hc i x hi).2
theorem getElem?_of_lt{α:Type}{l:List α}{k:Nat}(h:k<l.length):∃x,l[k]? =some x/\x∈l:=⟨l[k],List.getElem?_eq_getElem h,List.getElem_mem h⟩
abbrev aN(p0:Int)(p1:Int)(p2:bA)(p3:bA)(p4:Option Addr)(p5:Nat)(p6:Nat)(p7:Option Addr)(p8:Nat)(p9:Nat):Obj:=.cells #[.int .i64 p0,.int .i64 p1,.string p2,.string p3,.slice p4 p5 p6,.slice p7 p8 p9] 35
abbrev jQ(p0:bA)(p1:Bool)(p2:Option Addr)(p3:Nat)(p4:Nat)(p5:Int)(p6:Option Addr)(p7:Nat)(p8:Nat)(p9:Int)(p10:Int)(p11:Int)(p12:bA)(p13:bA)(p14:Option Addr)(p15:Nat)(p16:Nat)(p17:Option Addr)(p18:Nat)(p19:Nat):Obj:=.cells #[.string p0,.bool p1,.slice p2 p3 p4,.int .i64 p5,.slice p6 p7 p8,.int .i64 p9,.int .i64 p10,.int .i64 p11,.string p12,.string p13,.slice p14 p15 p16,.slice p17 p18 p19] 47
abbrev eK(p0:Int)(p1:Int)(p2:bA)(p3:bA)(p4:Option Addr)(p5:Nat)(p6:Nat)(p7:Option Addr)(p8:Nat)(p9:Nat):Value:=.agg #[.int .i64 p0,.int .i64 p1,.string p2,.string p3,.slice p4 p5 p6,.slice p7 p8 p9]
abbrev dT(p0:Int)(p1:bA)(p2:Int)(p3:Int):Obj:=.cells #[.int .i64 p0,.string p1,.int .i64 p2,.int .i64 p3] 59
abbrev eQ(p0:Int)(p1:Int)(p2:bA)(p3:bA)(p4:Option Addr)(p5:Nat)(p6:Nat):Obj:=.cells #[.int .i64 p0,.int .i64 p1,.string p2,.string p3,.slice p4 p5 p6] 222
abbrev dB(p0:bA)(p1:Int)(p2:Option Addr)(p3:Nat)(p4:Nat):Obj:=.cells #[.string p0,.int .i64 p1,.slice p2 p3 p4] 105
abbrev qV(p0:Int)(p1:Int)(p2:bA)(p3:bA)(p4:Option Addr)(p5:Nat)(p6:Nat)(p7:Option Addr)(p8:Nat)(p9:Nat)(p10:Int)(p11:Int)(p12:bA)(p13:bA)(p14:Option Addr)(p15:Nat)(p16:Nat)(p17:Option Addr)(p18:Nat)(p19:Nat):Obj:=.cells #[.int .i64 p0,.int .i64 p1,.string p2,.string p3,.slice p4 p5 p6,.slice p7 p8 p9,.int .i64 p10,.int .i64 p11,.string p12,.string p13,.slice p14 p15 p16,.slice p17 p18 p19] 35
abbrev iK(p0:bA)(p1:Int)(p2:Int)(p3:Option Addr)(p4:Nat)(p5:Nat):Obj:=.cells #[.string p0,.int .i64 p1,.int .i64 p2,.slice p3 p4 p5] 219
abbrev oBx8(p0:Int)(p1:Int)(p2:bA)(p3:bA)(p4:Option Addr)(p5:Nat)(p6:Nat)(p7:Option Addr)(p8:Nat)(p9:Nat)(p10:Int)(p11:Int)(p12:bA)(p13:bA)(p14:Option Addr)(p15:Nat)(p16:Nat)(p17:Option Addr)(p18:Nat)(p19:Nat)(p20:Int)(p21:Int)(p22:bA)(p23:bA)(p24:Option Addr)(p25:Nat)(p26:Nat)(p27:Option Addr)(p28:Nat)(p29:Nat):Obj:=.cells #[.int .i64 p0,.int .i64 p1,.string p2,.string p3,.slice p4 p5 p6,.slice p7 p8 p9,.int .i64 p10,.int .i64 p11,.string p12,.string p13,.slice p14 p15 p16,.slice p17 p18 p19,.int .i64 p20,.int .i64 p21,.string p22,.string p23,.slice p24 p25 p26,.slice p27 p28 p29] 35
abbrev kP(p0:Int)(p1:Int)(p2:bA)(p3:bA)(p4:Value)(p5:Value):Value:=.agg #[.int .i64 p0,.int .i64 p1,.string p2,.string p3,p4,p5]
abbrev mQ(p0:bA)(p1:Option Addr)(p2:Nat)(p3:Nat)(p4:Option Addr)(p5:Nat)(p6:Nat)(p7:Option Addr)(p8:Nat)(p9:Nat)(p10:Option Addr)(p11:Nat)(p12:Nat)(p13:Bool)(p14:Option Addr)(p15:Nat)(p16:Nat)(p17:Option Addr)(p18:Nat)(p19:Nat)(p20:Option Addr)(p21:Nat)(p22:Nat):Obj:=.cells #[.string p0,.slice p1 p2 p3,.slice p4 p5 p6,.slice p7 p8 p9,.slice p10 p11 p12,.bool p13,.slice p14 p15 p16,.slice p17 p18 p19,.slice p20 p21 p22] 30
abbrev nT(p0:Int)(p1:Int)(p2:bA)(p3:bA)(p4:Option Addr)(p5:Nat)(p6:Nat):Value:=.agg #[.int .i64 p0,.int .i64 p1,.string p2,.string p3,.slice p4 p5 p6]
abbrev oBx12(p0:bA)(p1:Bool)(p2:Option Addr)(p3:Nat)(p4:Nat)(p5:Int)(p6:Option Addr)(p7:Nat)(p8:Nat)(p9:Int)(p10:Int)(p11:Int)(p12:bA)(p13:bA)(p14:Option Addr)(p15:Nat)(p16:Nat)(p17:Option Addr)(p18:Nat)(p19:Nat):Value:=.agg #[.string p0,.bool p1,.slice p2 p3 p4,.int .i64 p5,.slice p6 p7 p8,.int .i64 p9,.int .i64 p10,.int .i64 p11,.string p12,.string p13,.slice p14 p15 p16,.slice p17 p18 p19]
abbrev kE(p0:Int)(p1:Option Addr)(p2:Nat)(p3:Nat):Obj:=.cells #[.int .i64 p0,.slice p1 p2 p3] 45
abbrev qW(p0:bA)(p1:Int)(p2:Int):Obj:=.cells #[.string p0,.int .i64 p1,.int .i64 p2] 166
abbrev iH(p0:bA):Obj:=.cells #[.string p0] 9
abbrev kD(p0:Int):Obj:=.cells #[.int .i64 p0] 3
abbrev pA(p0:Int)(p1:Value)(p2:bA)(p3:Bool):Value:=.agg #[.int .i64 p0,p1,.string p2,.bool p3]
abbrev oBx18(p0:Option Addr)(p1:Nat)(p2:Nat)(p3:Option Addr)(p4:Nat)(p5:Nat)(p6:Int):Obj:=.cells #[.slice p0 p1 p2,.slice p3 p4 p5,.int .i64 p6] 226
abbrev oBx19(p0:bA)(p1:Option Addr)(p2:Nat)(p3:Nat)(p4:Option Addr)(p5:Nat)(p6:Nat)(p7:Option Addr)(p8:Nat)(p9:Nat)(p10:Option Addr)(p11:Nat)(p12:Nat)(p13:Bool)(p14:Option Addr)(p15:Nat)(p16:Nat)(p17:Option Addr)(p18:Nat)(p19:Nat)(p20:Option Addr)(p21:Nat)(p22:Nat):Value:=.agg #[.string p0,.slice p1 p2 p3,.slice p4 p5 p6,.slice p7 p8 p9,.slice p10 p11 p12,.bool p13,.slice p14 p15 p16,.slice p17 p18 p19,.slice p20 p21 p22]
abbrev pR(p0:Value)(p1:Option Addr)(p2:Nat)(p3:Nat)(p4:Bool):Obj:=.cells #[p0,.slice p1 p2 p3,.bool p4] 102
abbrev oBx21(p0:Option Addr)(p1:Nat)(p2:Nat)(p3:Int):Obj:=.cells #[.slice p0 p1 p2,.int .i64 p3] 76
abbrev oBx22(p0:bA)(p1:Int)(p2:Int)(p3:Option Addr)(p4:Nat)(p5:Nat):Value:=.agg #[.string p0,.int .i64 p1,.int .i64 p2,.slice p3 p4 p5]
abbrev oBx23(p0:Option Addr)(p1:Nat)(p2:Nat)(p3:Option Addr)(p4:Nat)(p5:Nat)(p6:Option Addr)(p7:Nat)(p8:Nat)(p9:Option Addr)(p10:Nat)(p11:Nat)(p12:Int)(p13:Int):Obj:=.cells #[.slice p0 p1 p2,.slice p3 p4 p5,.slice p6 p7 p8,.slice p9 p10 p11,.int .i64 p12,.int .i64 p13] 140
abbrev oBx24(p0:Int)(p1:bA)(p2:Int)(p3:Int):Value:=.agg #[.int .i64 p0,.string p1,.int .i64 p2,.int .i64 p3]
abbrev oBx25(p0:Int)(p1:Int)(p2:bA)(p3:bA)(p4:Value)(p5:Value):Obj:=.cells #[.int .i64 p0,.int .i64 p1,.string p2,.string p3,p4,p5] 35
abbrev oBx26(p0:bA)(p1:Int)(p2:Option Addr)(p3:Nat)(p4:Nat):Value:=.agg #[.string p0,.int .i64 p1,.slice p2 p3 p4]
abbrev oBx27(p0:Int):Obj:=.cells #[.int .i64 p0] 31
abbrev bY:=@heap_alloc_new
abbrev Yb:=@List.getElem?_eq_some_iff
theorem zh{p:Prop}(h:p):Hid p:=Lib.hid h
theorem YM{p:Prop}(h:p:=by omega):p:=h
theorem YN{p:Prop}(h:p:=by kernel_rfl):p:=h
theorem YO{p:Prop}(h:p:=by decide):p:=h
theorem YQ{p:Prop}(h:p:=by rw[xY.out,<-List.append_assoc,Lib.byteCells_append];exact tG.out):p:=h
theorem YR{p:Prop}(h:p:=by simp):p:=h
theorem YS{p:Prop}(h:p:=by rw[wG.out,eO,<-List.append_assoc];exact vQ.out):p:=h
theorem YU{p:Prop}(h:p:=by have x0:=aD hW q0;have x1:=aD hW q1;have x2:=aD hW q2;have y0:=aD hW t0;have y1:=aD hW t1;go_simp):p:=h
theorem YV{p:Prop}(h:p:=by rw[beq_eq_false_iff_ne];omega):p:=h
theorem YW{p:Prop}(h:p:=by rw[aU];exact⟨_,_,rfl,by decide,by decide,aO.nil _ _ _ _,(aO.of_block (N:=fun b=>w.heap.size<b/\b≠b5) (css:=[[.int .i64 op,.int .i64 n,.string s,.string m,.slice a1 n1 c1,.slice a2 n2 c2],[.int .i64 opc,.int .i64 nc,.string sc,.string mc,.slice pc qc rc,.slice tc uc vc]]) (bY w5 _) (by exact⟨by omega,by omega⟩) rfl (by simp) (fun i y c hy hc=>by match i,hy,hc with|0,hy,hc=>(cases hy;cases hc;exact aI _ _ _ _ _ _ (bU.later (aA w5 _)) wA.out.enc)|1,hy,hc=>(cases hy;cases hc;exact aI.wide (aI _ _ _ _ _ _ (bU.later (aA w5 _)) VD.out) fun b hb _=>⟨by have hb:w4.heap.size<=b:=hb;omega,by have hb:w4.heap.size<=b:=hb;omega⟩)) rfl (by decide):aO 6 bN (fun b=>w.heap.size<b/\b≠b5) (w5.alloc (qV op n s m a1 n1 c1 a2 n2 c2 opc nc sc mc pc qc rc tc uc vc)) (.slice (some ⟨w5.heap.size,0,none⟩) 2 2) [x,xb])⟩):p:=h
theorem YX{p:Prop}(h:p:=by simp[results,Tryz.results191,go_sem,r0,r1,r2,r3,r4,r5]):p:=h
theorem YY{p:Prop}(h:p:=by rw[beq_eq_false_iff_ne];intro e;exact sM (bD e)):p:=h
theorem YZ{p:Prop}(h:p:=by go_num):p:=h
theorem Y0{p:Prop}(h:p:=by unfold aQ;rw[if_neg k1,if_neg (show ¬isP p.l i dC=true by rw[qt];simp),if_neg (show ¬isP p.l i cB=true by rw[qf];simp),if_neg (show ¬isP p.l i iC=true by rw[qg];simp),if_neg (show ¬((aL p.l i).kind=0/\bR (aL p.l i).text≠0) from fun h=>k0 h.1),if_neg (show ¬isP p.l i bH=true by rw[qb];simp),if_neg (show ¬isP p.l i aX=true by rw[qo];simp)];try rfl):p:=h
theorem Y1{p:Prop}(h:p:=by unfold aQ;rw[if_neg k1,if_neg (show ¬isP p.l i dC=true by rw[qt];simp),if_neg (show ¬isP p.l i cB=true by rw[qf];simp),if_neg (show ¬isP p.l i iC=true by rw[qg];simp),if_neg (show ¬((aL p.l i).kind=0/\bR (aL p.l i).text≠0) from fun h=>h.2 kb),if_neg (show ¬isP p.l i bH=true by rw[qb];simp),if_neg (show ¬isP p.l i aX=true by rw[qo];simp)];try rfl):p:=h
theorem Y2{p:Prop}(h:p:=by rcases e with e|e<;>omega):p:=h
theorem Y3{p:Prop}(h:p:=by simp[Value.oneCell']):p:=h
theorem Y4{p:Prop}(h:p:=by rw[beq_eq_false_iff_ne];exact k1):p:=h
theorem Y6{p:Prop}(h:p:=by rw[beq_eq_false_iff_ne];intro e;exact tS (bD e)):p:=h
theorem Y7{p:Prop}(h:p:=by unfold maxLen;omega):p:=h
theorem Y8{p:Prop}(h:p:=by go_simp<;>omega):p:=h
theorem Y9{p:Prop}(h:p:=by simp;omega):p:=h
theorem ZA{p:Prop}(h:p:=by obtain⟨V9,hV⟩:=hW;have q5:=hV.off.cell BS r5;have zy0:=hV.off.cell tZ H5;have zy1:=hV.off.cell tZ H4;have zy2:=hV.off.cell tZ FD;have zy3:=hV.off.cell tZ hy3;have zy4:=hV.off.cell tZ hy4;have zy5:=hV.off.cell tZ hy5;go_simp):p:=h
theorem ZB{p:Prop}(h:p:=by first|(rw[HR.out];done)|(rw[HR.out];simp)):p:=h
theorem ZC{p:Prop}(h:p:=by have:=h.blt;omega):p:=h
theorem ZD{p:Prop}(h:p:=by simp[results,Tryz.results244,go_sem]):p:=h
theorem ZE{p:Prop}(h:p:=by first|(rw[HM.out];done)|(rw[HM.out];rfl)|(rw[HM.out];simp)):p:=h
theorem ZF{p:Prop}(h:p:=by have h1:=hb.1;show w.heap.size<=b;omega):p:=h
theorem ZI{p:Prop}(h:p:=by have hb:b=p.pb:=hb;omega):p:=h
theorem ZJ{p:Prop}(h:p:=by rw[Bool.eq_iff_iff];simp;omega):p:=h
theorem ZK{p:Prop}(h:p:=by cases h;kernel_rfl):p:=h
theorem ZL{p:Prop}(h:p:=by rw[HF.out]):p:=h
theorem ZM{p:Prop}(h:p:=by rw[IntKind.wrap_i64];omega):p:=h
theorem ZN{p:Prop}(h:p:=by rw[aU];exact⟨_,_,rfl,by decide,by decide,aO.nil _ _ _ _,aO.nil _ _ _ _⟩):p:=h
theorem ZR{p:Prop}(h:p:=by have h:=hj 0 _ rfl;simpa using h):p:=h
theorem ZS{p:Prop}(h:p:=by simpa using h):p:=h
theorem ZT{p:Prop}(h:p:=by rw[HR.out];rfl):p:=h
theorem ZU{p:Prop}(h:p:=by obtain⟨y0,y1,y2,y3,y4⟩:=(bx5 (aH hW tB.out)).1;go_simp<;>omega):p:=h
theorem ZV{p:Prop}(h:p:=by rfl):p:=h
theorem ZW{p:Prop}(h:p:=by go_simp):p:=h
theorem ZX{p:Prop}(h:p:=by have hb:b=p.pb:=hb;have:=HW.out.blt;omega):p:=h
theorem ZY{p:Prop}(h:p:=by have I8:(0:Int)<=(q:Int)-1:=(by omega);have LH:(q:Int)-1<(fs.length:Int):=(by omega);have TA:((q:Int)-1).toNat=q-1:=(by omega);have hi4:¬(q:Int)<1:=(by omega);go_simp):p:=h
theorem ZZ{p:Prop}(h:p:=by obtain⟨V9,hV⟩:=hW;have q5:=hV.off.cell BS r5;go_simp):p:=h
theorem Z0{p:Prop}(h:p:=by simp at h):p:=h
theorem Z1{p:Prop}(h:p:=by have h:=HZ.out;first|exact h|(simp only[List.append_assoc] at h ⊢;exact h)):p:=h
theorem Z2{p:Prop}(h:p:=by have:=HB.out.1;omega):p:=h
theorem Z3{p:Prop}(h:p:=by have h1:=hn.1;rcases hb with(e|e|e|e)|e<;>omega):p:=h
theorem Z4{p:Prop}(h:p:=by rw[HM.out,fns_bad HX.out (.inr (.inr (by rw[HR.out];rfl))) PO.out];simp):p:=h
theorem Z5{p:Prop}(h:p:=by simp<;>omega):p:=h
theorem Z8{p:Prop}(h:p:=by have hb:w4.heap.size<=b:=hb;omega):p:=h
theorem Z9{p:Prop}(h:p:=by simpa using bY ((w7.setCell ⟨w6.heap.size,1,none⟩ (.int .i64 k)).setCell ⟨w6.heap.size,2,none⟩ (.slice sa sn sc)) (dB a k sa sn sc)):p:=h
theorem aAa{p:Prop}(h:p:=by rw[beq_eq_false_iff_ne];exact k0):p:=h
theorem aAb{p:Prop}(h:p:=by rw[bne_eq_false_iff_eq];exact hA):p:=h
theorem aAc{p:Prop}(h:p:=by rw[aU];exact⟨_,_,rfl,zR,by decide,aO.nil _ _ _ _,aO.nil _ _ _ _⟩):p:=h
theorem aAd{p:Prop}(h:p:=by simp[eY] at uN;omega):p:=h
theorem aAe{p:Prop}(h:p:=by rw[beq_iff_eq];exact k0):p:=h
theorem aAf{p:Prop}(h:p:=by rw[HLM.out];show List.flatMap kQ _=_;simp only[List.append_assoc,List.append_nil,Bool.false_eq_true,if_false,if_true]):p:=h
theorem aAg{p:Prop}(h:p:=by have x0:=aD hW q0;have x1:=aD hW q1;have x2:=aD hW q2;have y0:=aD hW t0;have y1:=aD hW t1;have z0:=aD hW hp0;go_simp):p:=h
theorem aAh{p:Prop}(h:p:=by have h:=A8.out;rw[U0.out] at h;exact h):p:=h
theorem aAi{p:Prop}(h:p:=by have:=HS.out.blt;intro e;have e:w.heap.size=p.pb:=e;omega):p:=h
theorem aAj{p:Prop}(h:p:=by rw[vL.out,uY];simp[zI]):p:=h
theorem aAk{p:Prop}(h:p:=by simp[results,Tryz.results134,go_sem,r0,r1,r2,r3,r4,r5]):p:=h
theorem aAl{p:Prop}(h:p:=by rcases hb with e|e<;>omega):p:=h
theorem aAm{p:Prop}(h:p:=by simpa using sD):p:=h
theorem aAn{p:Prop}(h:p:=by rw[sA.out,wK,List.drop_length];rfl):p:=h
theorem aAo{p:Prop}(h:p:=by simp[Value.ownBlock]):p:=h
theorem aAp{p:Prop}(h:p:=by have hn:B4<=b:=hn;rcases hb with(e|e|e|e)|e<;>omega):p:=h
theorem aAq{p:Prop}(h:p:=by have hb:w6.heap.size<=b:=hb;omega):p:=h
theorem aAr{p:Prop}(h:p:=by rw[beq_eq_false_iff_ne];exact h1):p:=h
theorem aAs{p:Prop}(h:p:=by rw[yC];rfl):p:=h
theorem aAu{p:Prop}(h:p:=by have:=HB.out;have:=MW.out;omega):p:=h
theorem aAv{p:Prop}(h:p:=by rw[HI.out.len];exact BT):p:=h
theorem aAw{p:Prop}(h:p:=by have:=(zY.out.own b2 e).2;omega):p:=h
theorem aAx{p:Prop}(h:p:=by rw[yC];simp):p:=h
theorem aAy{p:Prop}(h:p:=by exact(mI _)):p:=h
theorem aAz{p:Prop}(h:p:=by have e:w6.heap.size=p.pb:=e;have:=vN.blt;omega):p:=h
theorem aAA{p:Prop}(h:p:=by simpa[Value.ownBlock] using hb):p:=h
theorem aAD{p:Prop}(h:p:=by simpa[Value.ownBlock] using e):p:=h
theorem aAE{p:Prop}(h:p:=by have hwq:IntKind.i64.wrap ((q:Int)-1)=(q:Int)-1:=(by rw[IntKind.wrap_i64];omega);go_simp):p:=h
theorem aAF{p:Prop}(h:p:=by have hb:B4<=b:=hb;show w.heap.size<=b;omega):p:=h
theorem aAI{p:Prop}(h:p:=by rw[hq];simp):p:=h
theorem aAJ{p:Prop}(h:p:=by have NC:IntKind.i64.wrap (d:Int)=(d:Int):=(by rw[IntKind.wrap_i64];omega);go_simp):p:=h
theorem aAK{p:Prop}(h:p:=by rw[L7.out];simp):p:=h
theorem aAL{p:Prop}(h:p:=by obtain⟨V9,hV⟩:=hW;have q5:=hV.off.cell I2 r5;have q2:=hV.off.cell I2 r2;go_simp):p:=h
theorem aAM{p:Prop}(h:p:=by have hb:w20.heap.size<=b:=hb;have:=DA.out.lt;exact⟨by omega,by omega,by omega⟩):p:=h
theorem aAP{p:Prop}(h:p:=by have hb:b=p.pb:=hb;have:=hW.blt;omega):p:=h
theorem aAQ{p:Prop}(h:p:=by obtain⟨y0,y1,y2,y3⟩:=bx4 hW.1;go_simp):p:=h
theorem aAR{p:Prop}(h:p:=by exact⟨by omega,by omega⟩):p:=h
theorem aAS{p:Prop}(h:p:=by simpa using he):p:=h
theorem aAT{p:Prop}(h:p:=by cases hh:cX files with|true=>rfl|false=>exact absurd (.inr (.inl hh)) uZ):p:=h
theorem aAU{p:Prop}(h:p:=by simp[results,Tryz.results119,go_sem,r0,r1,r2,r3,r4,r5,r6,r7,r8,r9,zO,zN]):p:=h
theorem aAV{p:Prop}(h:p:=by rw[beq_eq_false_iff_ne];intro e;have:=bD e;subst this;revert ht;simp[eW]):p:=h
theorem aAW{p:Prop}(h:p:=by cases h):p:=h
theorem aAX{p:Prop}(h:p:=by simp[results,Tryz.results36,go_sem]):p:=h
theorem aAY{p:Prop}(h:p:=by simpa using ‹(!isP p.l xE aY)=true›):p:=h
theorem aAZ{p:Prop}(h:p:=by rw[gV];exact⟨_,rfl,aO.nil _ _ _ _⟩):p:=h
theorem aA0{p:Prop}(h:p:=by simpa using ‹(!isP p.l j aY)=true›):p:=h
theorem aA1{p:Prop}(h:p:=by have hb:B<=b:=hb;omega):p:=h
theorem aA2{p:Prop}(h:p:=by have rQ:b=b5:=rQ;omega):p:=h
theorem aA3{p:Prop}(h:p:=by rw[List.take_zero];show WrS B wb (st.put []) v w;rw[kC];exact HH.out):p:=h
theorem aA4{p:Prop}(h:p:=by obtain⟨⟨z0,z1,z2,z3,z4,z5,z6,z7,z8,z9,z10,z11⟩,-⟩:=iS hW.1;go_simp):p:=h
theorem aA6{p:Prop}(h:p:=by rw[beq_eq_false_iff_ne];exact k2):p:=h
theorem aA7{p:Prop}(h:p:=by have h:=BI 0 _ rfl;simpa using h):p:=h
theorem aA8{p:Prop}(h:p:=by rw[beq_eq_false_iff_ne];exact ha):p:=h
theorem aA9{p:Prop}(h:p:=by simp[Value.ownBlock] at hk;omega):p:=h
theorem aBa{p:Prop}(h:p:=by have h:=CH 0 _ rfl;simpa using h):p:=h
theorem aBb{p:Prop}(h:p:=by have h:=CH 1 _ rfl;simpa using h):p:=h
theorem aBc{p:Prop}(h:p:=by have h:=CH 2 _ rfl;simpa using h):p:=h
theorem aBd{p:Prop}(h:p:=by have h:=CH 3 _ rfl;simpa using h):p:=h
theorem aBe{p:Prop}(h:p:=by have h:=CH 4 _ rfl;simpa using h):p:=h
theorem aBf{p:Prop}(h:p:=by have h:=CH 5 _ rfl;simpa using h):p:=h
theorem aBg{p:Prop}(h:p:=by have h:=CG 0 _ rfl;simpa using h):p:=h
theorem aBh{p:Prop}(h:p:=by have h:=CG 1 _ rfl;simpa using h):p:=h
theorem aBi{p:Prop}(h:p:=by have h:=CG 2 _ rfl;simpa using h):p:=h
theorem aBj{p:Prop}(h:p:=by have h:=CG 3 _ rfl;simpa using h):p:=h
theorem aBk{p:Prop}(h:p:=by have h:=CG 4 _ rfl;simpa using h):p:=h
theorem aBl{p:Prop}(h:p:=by have h:=CG 5 _ rfl;simpa using h):p:=h
theorem aBm{p:Prop}(h:p:=by rw[CT];exact sD):p:=h
theorem aBn{p:Prop}(h:p:=by obtain⟨_,_,_,h1,h2,-⟩:=hr;omega):p:=h
theorem aBo{p:Prop}(h:p:=by unfold gK;rw[hq];rfl):p:=h
theorem aBp{p:Prop}(h:p:=by simp[results,Tryz.results44,go_sem,r0,r1,r2,r3,r4,r5,r6,r7,r8]):p:=h
theorem aBq{p:Prop}(h:p:=by simp[results,Tryz.results11,go_sem,r0,r1,r2,r3,r4,r5,r6,r7,r8]):p:=h
theorem aBr{p:Prop}(h:p:=by show WrS B wb (st.put []) v _;rw[kC];exact HC.out.later NZ.out):p:=h
theorem aBs{p:Prop}(h:p:=by cases hh:cW s with|true=>rfl|false=>exact absurd (.inl hh) uZ):p:=h
theorem aBt{p:Prop}(h:p:=by simpa using hy):p:=h
theorem aBu{p:Prop}(h:p:=by rw[aU];exact⟨_,_,rfl,by decide,by decide,aO.nil _ _ _ _,vP⟩):p:=h
theorem aBv{p:Prop}(h:p:=by rw[aU];exact⟨_,_,rfl,by decide,by decide,aO.nil _ _ _ _,GF⟩):p:=h
theorem aBw{p:Prop}(h:p:=by have h1:=hn.2;omega):p:=h
theorem aBx{p:Prop}(h:p:=by have h:=zP;unfold fD at h;split at h;(assumption);(cases h)):p:=h
theorem aBy{p:Prop}(h:p:=by have q1:=hW;go_simp):p:=h
end Go.Proofs.YtiionicikdnnpaaGreatDoor
namespace Go.Proofs.YtiionicikdnnpaaGreatDoor
open Go.RowKit Go.Maps
structure KeyC (P:Program) (t:TypeId) (κ:Type) where
 lit:κ->Lit
 val:κ->Value
 ok:κ->Prop
 inj:∀a b,lit a=lit b->a=b
 key:∀a,ok a->keyOf P t (val a)=some (lit a)
 keyed:Keyed P t
 isKey:∀a,WideAt.IsKeyLit (lit a)
structure ValC (P:Program) (t:TypeId) (ν:Type) where
 lit:ν->Lit
 val:ν->Value
 ok:ν->Prop
 zero:ν
 zok:ok zero
 rd:∀x,ok x->plainElem (H:=Unit) P t (val x)=some (.lit (lit x),[])
 inv:∀v x ps,plainElem (H:=Unit) P t v=some (.lit (lit x),ps)->v=val x
 zrun:∀w,(zeroValue t).run P w=.ok (val zero) w
theorem iN{s t:bA}(h:s.data.toList=t.data.toList):s=t:=by
 cases s;cases t;congr;exact Array.toList_inj.1 h
section
variable {P:Program} {t:TypeId}
def strKey(h:P.underlying t=some .string):KeyC P t bA where
 lit s:=.string s.data.toList
 val:=.string
 ok s:=s.size<=maxLen
 inj a b h:=iN (by simpa using h)
 key a ha:=Go.WideMaps.keyOf_string_mk h ha
 keyed:=string_keyed h
 isKey _:=trivial
def intKey(h:P.underlying t=some (.int .i64)):KeyC P t Int where
 lit:=.int .i64
 val:=.int .i64
 ok n:=(Lit.int .i64 n).wf=true
 inj a b h:=by simpa using h
 key a ha:=keyOf_int_mk h ha
 keyed:=int_keyed h
 isKey _:=trivial
def boolVal(h:P.underlying t=some .bool)(hz:∀w,(zeroValue t).run P w=.ok (.bool false) w):ValC P t Bool where
 lit:=.bool
 val:=.bool
 ok _:=True
 zero:=false
 zok:=trivial
 rd x _:=plainElem_bool h x
 inv v x ps hv:=by
  unfold plainElem at hv;rw[h] at hv;cases v<;>simp at hv;rw[hv.1]
 zrun:=hz
def intVal(h:P.underlying t=some (.int .i64))(hz:∀w,(zeroValue t).run P w=.ok (.int .i64 0) w):ValC P t Int where
 lit:=.int .i64
 val:=.int .i64
 ok n:=(Lit.int .i64 n).wf=true
 zero:=0
 zok:=by decide
 rd x hx:=plainElem_int h hx
 inv v x ps hv:=by
  obtain⟨a,rfl,e,-⟩:=plainElem_int_inv h hv;simp at e;rw[e.1]
 zrun:=hz
def strVal(h:P.underlying t=some .string)(hz:∀w,(zeroValue t).run P w=.ok (.string ByteArray.empty) w):ValC P t bA where
 lit s:=.string s.data.toList
 val:=.string
 ok s:=s.size<=maxLen
 zero:=ByteArray.empty
 zok:=by decide
 rd x hx:=plainElem_string h hx
 inv v x ps hv:=by
  unfold plainElem at hv;rw[h] at hv;cases v<;>simp at hv;exact congrArg Value.string (iN (by simpa using congrArg Array.toList hv.2.1))
 zrun:=hz
end
section
variable {P:Program} {kt et t:TypeId} {κ ν:Type} {K:KeyC P kt κ} {V:ValC P et ν} {w:World} {b n:Nat} {m:κ->Option ν}
def bV(K:KeyC P kt κ)(V:ValC P et ν)(w:World)(b n:Nat)(m:κ->Option ν):Prop:=
 ∃D:DataW Unit,w.ownsMap P kt (plainElem P et) b n D/\∀x z,D.atKey (K.lit x) z=(match m x with|some v=>.lit (V.lit v)|none=>z)
theorem bV.made(w:World):bV K V (w.alloc (.map #[] 0)) w.heap.size 0 (fun _=>none):=
 ⟨.map [],World.ownsMap_made w P kt _,fun _ _=>rfl⟩
theorem bV.of_block{w':World}(h:bV K V w b n m)(hb:w'.heap[b]? =w.heap[b]?):bV K V w' b n m:=by
 obtain⟨D,⟨es,clock,h1,r⟩,h2⟩:=h;exact⟨D,⟨es,clock,hb.trans h1,r⟩,h2⟩
theorem bV.lt(h:bV K V w b n m):b<w.heap.size:=by obtain⟨D,h1,-⟩:=h;exact h1.lt
theorem bV.later{w':World}(h:bV K V w b n m)(hb:Below w.heap.size w w'):bV K V w' b n m:=h.of_block (hb.block b h.lt)
theorem bV.mono{n':Nat}(h:bV K V w b n m)(hn:n<=n'):bV K V w b n' m:=by obtain⟨D,h1,h2⟩:=h;exact⟨D,h1.mono hn,h2⟩
theorem bV.alloc(h:bV K V w b n m)(o:Obj):bV K V (w.alloc o) b n m:=h.of_block (Below.heap_alloc _ _ _ h.lt)
theorem bV.drew(h:bV K V w b n m):bV K V w.drew b n m:=h
theorem bV.setCell(h:bV K V w b n m){a:Addr}(ha:b≠a.block)(u:Value):bV K V (w.setCell a u) b n m:=h.of_block (Below.heap_setCell _ _ _ _ ha)
theorem bV.ext{m':κ->Option ν}(h:bV K V w b n m)(e:∀x,m x=m' x):bV K V w b n m':=by
 have:m=m':=funext e;exact this▸h
theorem bV.look(h:bV K V w b n m)(ht:P.underlying t=some (.map kt et)){x:κ}(hx:K.ok x):
  (Instr.lookup t (.map (some b)) (K.val x) false).run P w=.ok (V.val ((m x).getD V.zero)) w:=by
 obtain⟨D,h1,h2⟩:=h;obtain⟨v,ps,AZ,hv⟩:=h1.lookup K.keyed ht (V.zrun w) (V.rd _ V.zok) (K.key x hx);rw[h2] at hv
 cases hm:m x with
 |none=>rw[hm] at hv;rw[AZ,V.inv v _ ps hv];rfl
 |some y=>rw[hm] at hv;rw[AZ,V.inv v _ ps hv];rfl
theorem bV.look2(h:bV K V w b n m)(ht:P.underlying t=some (.map kt et)){x:κ}(hx:K.ok x):
  (Instr.lookup t (.map (some b)) (K.val x) true).run P w=.ok (.tuple #[V.val ((m x).getD V.zero),.bool (m x).isSome]) w:=by
 obtain⟨D,h1,h2⟩:=h;obtain⟨v,ps,AZ,hv⟩:=h1.look_ok K.keyed ht (V.zrun w) (V.rd _ V.zok) (K.key x hx);rw[h2] at hv
 cases hm:m x with
 |none=>
  rw[hm] at hv;have:Maps.has D (K.lit x)=false:=Maps.has_false_of_atKey fun z=>by rw[h2,hm]
  rw[AZ,V.inv v _ ps hv,this];rfl
 |some y=>
  rw[hm] at hv;have:Maps.has D (K.lit x)=true:=Maps.has_true_of_atKey (y:=.lit (V.lit y)) fun z=>by rw[h2,hm]
  rw[AZ,V.inv v _ ps hv,this];rfl
open Classical in
theorem bV.store(h:bV K V w b n m)(ht:P.underlying t=some (.map kt et))(hn:n<maxLen){x:κ}(hx:K.ok x){y:ν}(hy:V.ok y):
  ∃w',(Instr.mapUpdate t (.map (some b)) (K.val x) (V.val y)).run P w=.ok () w'/\bV K V w' b (n+1) (fun z=>if z=x then some y else m z)/\w.grownBy w' (some b):=by
 obtain⟨D,h1,h2⟩:=h;obtain⟨w',AZ,h3,hg⟩:=h1.update K.keyed ht hn (K.key x hx) (V.rd y hy);refine⟨w',AZ,⟨_,h3,fun z d=>?_⟩,hg⟩;by_cases hz:z=x
 ·subst hz;rw[atKey_put_same h1.isMap (K.isKey z)];simp
 rw[atKey_put_other (fun e=>hz (K.inj _ _ e)),h2];simp[hz]
theorem wpList_look{ops:Array Oper}{rest:List Oper}{o:Oper}{a:Act}{Q:Exit->Act->World->Prop}(hg:o.guard=none){mo xo:Operand}(tN:o.op=Op.lookup t mo xo false)
  (ht:P.underlying t=some (.map kt et)) (h:bV K V w b n m) (hm:a.eval mo=.map (some b)) {x:κ} (hx:K.ok x) (AB:a.eval xo=K.val x)
  (hK:wpList P ops Q rest (a.put o.dst (V.val ((m x).getD V.zero))) w):wpList P ops Q (o::rest) a w:=by
 refine wpList_plain hg fun K' hK'=>?_;have AZ:=h.look ht hx;unfold Oper.wp;simp[execOp,tN,hm,AB,AZ,Result.andThen];exact hK' _ _ hK
open Classical in
theorem wpList_put{ops:Array Oper}{rest:List Oper}{o:Oper}{a:Act}{Q:Exit->Act->World->Prop}(hg:o.guard=none){mo xo vo:Operand}(tN:o.op=Op.mapUpdate t mo xo vo)
  (ht:P.underlying t=some (.map kt et)) (h:bV K V w b n m) (hn:n<maxLen) (hm:a.eval mo=.map (some b)) {x:κ} (hx:K.ok x) (AB:a.eval xo=K.val x) {y:ν} (hy:V.ok y) (hye:a.eval vo=V.val y)
  (hK:∀w',bV K V w' b (n+1) (fun z=>if z=x then some y else m z)->w.grownBy w' (some b)->wpList P ops Q rest (a.put o.dst undef) w'):wpList P ops Q (o::rest) a w:=by
 refine wpList_plain hg fun K' hK'=>?_;obtain⟨w',AZ,h1,h2⟩:=h.store ht hn hx hy;unfold Oper.wp;simp[execOp,tN,hm,AB,hye,AZ,Result.andThen];exact hK' _ _ (hK w' h1 h2)
end
end Go.Proofs.YtiionicikdnnpaaGreatDoor
