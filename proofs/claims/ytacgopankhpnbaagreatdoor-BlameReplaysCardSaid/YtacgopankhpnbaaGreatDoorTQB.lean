/- Texts of this seat, joined. -/
import Derived.Test.YtacgopankhpnbaaGreatDoorTQA
import Derived.Test.YtacgopankhpnbaaGreatDoorProg
import Derived.Lib.Hide
import Derived.WalkSpells
import Derived.BigQuiet
import Derived.Shelf.Abstract
set_option linter.unusedVariables false
set_option linter.unusedSimpArgs false
namespace Go.Proofs.YtacgopankhpnbaaGreatDoor
open Go.RowKit
theorem ZW{p:Prop}(h:p:=by
 obtain⟨cs,-,hl,hj⟩:=hc 0 x0 rfl
 exact cT (hj 0 (cs[0]'(by omega)) (List.getElem?_eq_getElem _))):p:=h
theorem aF{a b:Bool}(h:a=b):Ending.returned (.bool a)=.returned (.bool b):=by rw[h]
theorem fU{k:IntKind}{a b:Int}(h:a=b):Ending.returned (.int k a)=.returned (.int k b):=by rw[h]
theorem oH{a b:bA}(h:a=b):Ending.returned (.string a)=.returned (.string b):=by rw[h]
theorem take_snoc(s:bA)(k:Nat)(h:k<s.size):s.data.toList.take (k+1)=s.data.toList.take k++[s[k]]:=by
 rw[List.take_succ_eq_append_getElem (by simpa using h)];rfl
theorem bcell{W w1:World}(hb:Below W.heap.size W w1):(∀b o,b<W.heap.size->w1.cell? ⟨b,o,none⟩=W.cell? ⟨b,o,none⟩)/\(∀b o,b<W.heap.size->w1.frozen? ⟨b,o,none⟩=W.frozen? ⟨b,o,none⟩):=
 ⟨fun b o h=>hb.cell (p:=⟨b,o,none⟩) h,fun b o h=>hb.frozen (p:=⟨b,o,none⟩) h⟩
theorem cT{w:World}{b o:Nat}{v:Value}(h:w.cell? ⟨b,o,none⟩=some v):b<w.heap.size:=by
 by_cases hb:b<w.heap.size
 ·exact hb
 have:w.heap[b]? =none:=Array.getElem?_eq_none (by omega);simp[World.cell?,this] at h
theorem aC{w w':World}(hb:Below w.heap.size w w'){b o:Nat}{v:Value}(h:w.cell? ⟨b,o,none⟩=some v):w'.cell? ⟨b,o,none⟩=some v:=
 (hb.cell (p:=⟨b,o,none⟩) (cT h)).trans h
theorem aB{a b c:World}(h:Below a.heap.size a b)(k:Below b.heap.size b c):Below a.heap.size a c:=
 h.trans (k.mono h.size)
theorem aH(w:World)(o:Obj):(w.alloc o).heap[w.heap.size]? =some o:=by
 show(w.heap.push o)[w.heap.size]? =some o;simp
theorem aA(w:World)(o:Obj):Below w.heap.size w (w.alloc o):=(Below.refl _ _).alloc (Nat.le_refl _) _
def Row{α:Type}(k:Nat)(enc:World->α->List Value->Prop)(w:World)(v:Value)(l:List α):Prop:=
 ∃a c,v=.slice a l.length c/\l.length<=c/\c<=9223372036854775807/\
  (l≠[]->∃b o,a=some ⟨b,o,none⟩/\∀i x,l[i]? =some x->∃cs,enc w x cs/\cs.length=k/\∀j u,cs[j]? =some u->w.cell? ⟨b,o+i*k+j,none⟩=some u)
theorem Row.later{α:Type}{k:Nat}{enc:World->α->List Value->Prop}{w w':World}{v:Value}{l:List α}(hb:Below w.heap.size w w')
  (he:∀x cs,enc w x cs->enc w' x cs) (h:Row k enc w v l):Row k enc w' v l:=by
 obtain⟨a,c,hv,h1,h2,h3⟩:=h;refine⟨a,c,hv,h1,h2,fun sC=>?_⟩;obtain⟨b,o,ha,hc⟩:=h3 sC;refine⟨b,o,ha,fun i x hx=>?_⟩;obtain⟨cs,e,hl,hj⟩:=hc i x hx;exact⟨cs,he x cs e,hl,fun j u hu=>aC hb (hj j u hu)⟩
def encStr1(_:World)(x:bA)(cs:List Value):Prop:=cs=[.string x]/\x.size<=140737488355328
def Strs(w:World)(v:Value)(l:List bA):Prop:=Row 1 encStr1 w v l
theorem Strs.later{w w':World}{v:Value}{l:List bA}(hb:Below w.heap.size w w')(h:Strs w v l):Strs w' v l:=
 Row.later hb (fun _ _ h=>h) h
def encInt1(_:World)(x:Int)(cs:List Value):Prop:=cs=[.int .i64 x]
def hJ(w:World)(v:Value)(l:List Int):Prop:=Row 1 encInt1 w v l
theorem hJ.later{w w':World}{v:Value}{l:List Int}(hb:Below w.heap.size w w')(h:hJ w v l):hJ w' v l:=
 Row.later hb (fun _ _ h=>h) h
theorem Row.cases{α:Type}{k:Nat}{enc:World->α->List Value->Prop}{w:World}{v:Value}{l:List α}(h:Row (k+1) enc w v l):
  (l=[]/\∃a c,v=.slice a 0 c)\/(∃b o c,v=.slice (some ⟨b,o,none⟩) l.length c/\0<l.length/\l.length<=c/\c<=9223372036854775807/\b<w.heap.size/\
   ∀i x,l[i]? =some x->∃cs,enc w x cs/\cs.length=k+1/\∀j u,cs[j]? =some u->w.cell? ⟨b,o+i*(k+1)+j,none⟩=some u):=by
 obtain⟨a,c,hv,h1,h2,h3⟩:=h
 cases l with
 |nil=>exact .inl ⟨rfl,a,c,hv⟩
 |cons x0 l=>
  obtain⟨b,o,ha,hc⟩:=h3 (by simp);refine .inr ⟨b,o,c,by rw[hv,ha],by simp,h1,h2,?_,hc⟩;exact ZW
theorem Strs.cases{w:World}{v:Value}{l:List bA}(h:Strs w v l):
  (l=[]/\∃a c,v=.slice a 0 c)\/(∃b o c,v=.slice (some ⟨b,o,none⟩) l.length c/\0<l.length/\l.length<=c/\c<=9223372036854775807/\b<w.heap.size/\
   ∀i x,l[i]? =some x->w.cell? ⟨b,o+i,none⟩=some (.string x)/\x.size<=140737488355328):=by
 rcases Row.cases h with h|⟨b,o,c,hv,h0,h1,h2,hb,hc⟩
 ·exact .inl h
 refine .inr ⟨b,o,c,hv,h0,h1,h2,hb,fun i x hx=>?_⟩;obtain⟨cs,⟨e,hs⟩,-,hj⟩:=hc i x hx;have:=hj 0 (.string x) (by rw[e];rfl);exact⟨by simpa using this,hs⟩
theorem hJ.cases{w:World}{v:Value}{l:List Int}(h:hJ w v l):
  (l=[]/\∃a c,v=.slice a 0 c)\/(∃b o c,v=.slice (some ⟨b,o,none⟩) l.length c/\0<l.length/\l.length<=c/\c<=9223372036854775807/\b<w.heap.size/\
   ∀i x,l[i]? =some x->w.cell? ⟨b,o+i,none⟩=some (.int .i64 x)):=by
 rcases Row.cases h with h|⟨b,o,c,hv,h0,h1,h2,hb,hc⟩
 ·exact .inl h
 refine .inr ⟨b,o,c,hv,h0,h1,h2,hb,fun i x hx=>?_⟩;obtain⟨cs,e,-,hj⟩:=hc i x hx;have:=hj 0 (.int .i64 x) (by rw[e];rfl);simpa using this
theorem lZ{w:World}{v:Value}{l:List bA}(h:Strs w v l){x:bA}(hx:x∈l):x.size<=140737488355328:=by
 rcases h.cases with⟨rfl,-⟩|⟨b,o,c,-,-,-,-,-,hc⟩
 ·cases hx
 obtain⟨i,hi⟩:=List.getElem?_of_mem hx;exact(hc i x hi).2
theorem getElem?_of_lt{α:Type}{l:List α}{k:Nat}(h:k<l.length):∃x,l[k]? =some x/\x∈l:=⟨l[k],List.getElem?_eq_getElem h,List.getElem_mem h⟩
abbrev aQ(p0:Int)(p1:Int)(p2:bA)(p3:bA)(p4:Option Addr)(p5:Nat)(p6:Nat)(p7:Option Addr)(p8:Nat)(p9:Nat):Obj:=.cells #[.int .i64 p0,.int .i64 p1,.string p2,.string p3,.slice p4 p5 p6,.slice p7 p8 p9] 177
abbrev dV(p0:Int)(p1:Int)(p2:bA)(p3:bA)(p4:Option Addr)(p5:Nat)(p6:Nat)(p7:Option Addr)(p8:Nat)(p9:Nat):Value:=.agg #[.int .i64 p0,.int .i64 p1,.string p2,.string p3,.slice p4 p5 p6,.slice p7 p8 p9]
abbrev dE(p0:Int)(p1:bA)(p2:Int)(p3:Int):Obj:=.cells #[.int .i64 p0,.string p1,.int .i64 p2,.int .i64 p3] 201
abbrev dY(p0:Int)(p1:Int)(p2:bA)(p3:bA)(p4:Option Addr)(p5:Nat)(p6:Nat):Obj:=.cells #[.int .i64 p0,.int .i64 p1,.string p2,.string p3,.slice p4 p5 p6] 171
abbrev lG(p0:bA)(p1:Bool)(p2:Option Addr)(p3:Nat)(p4:Nat)(p5:Int)(p6:Option Addr)(p7:Nat)(p8:Nat)(p9:Int)(p10:Int)(p11:Int)(p12:bA)(p13:bA)(p14:Option Addr)(p15:Nat)(p16:Nat)(p17:Option Addr)(p18:Nat)(p19:Nat):Obj:=.cells #[.string p0,.bool p1,.slice p2 p3 p4,.int .i64 p5,.slice p6 p7 p8,.int .i64 p9,.int .i64 p10,.int .i64 p11,.string p12,.string p13,.slice p14 p15 p16,.slice p17 p18 p19] 179
abbrev cX(p0:bA)(p1:Int)(p2:Option Addr)(p3:Nat)(p4:Nat):Obj:=.cells #[.string p0,.int .i64 p1,.slice p2 p3 p4] 184
abbrev rJ(p0:Int)(p1:Int)(p2:bA)(p3:bA)(p4:Option Addr)(p5:Nat)(p6:Nat)(p7:Option Addr)(p8:Nat)(p9:Nat)(p10:Int)(p11:Int)(p12:bA)(p13:bA)(p14:Option Addr)(p15:Nat)(p16:Nat)(p17:Option Addr)(p18:Nat)(p19:Nat):Obj:=.cells #[.int .i64 p0,.int .i64 p1,.string p2,.string p3,.slice p4 p5 p6,.slice p7 p8 p9,.int .i64 p10,.int .i64 p11,.string p12,.string p13,.slice p14 p15 p16,.slice p17 p18 p19] 177
abbrev gY(p0:bA)(p1:Int)(p2:Int)(p3:Option Addr)(p4:Nat)(p5:Nat):Obj:=.cells #[.string p0,.int .i64 p1,.int .i64 p2,.slice p3 p4 p5] 168
abbrev oBx8(p0:Int)(p1:Int)(p2:bA)(p3:bA)(p4:Option Addr)(p5:Nat)(p6:Nat)(p7:Option Addr)(p8:Nat)(p9:Nat)(p10:Int)(p11:Int)(p12:bA)(p13:bA)(p14:Option Addr)(p15:Nat)(p16:Nat)(p17:Option Addr)(p18:Nat)(p19:Nat)(p20:Int)(p21:Int)(p22:bA)(p23:bA)(p24:Option Addr)(p25:Nat)(p26:Nat)(p27:Option Addr)(p28:Nat)(p29:Nat):Obj:=.cells #[.int .i64 p0,.int .i64 p1,.string p2,.string p3,.slice p4 p5 p6,.slice p7 p8 p9,.int .i64 p10,.int .i64 p11,.string p12,.string p13,.slice p14 p15 p16,.slice p17 p18 p19,.int .i64 p20,.int .i64 p21,.string p22,.string p23,.slice p24 p25 p26,.slice p27 p28 p29] 177
abbrev oBx9(p0:bA)(p1:Option Addr)(p2:Nat)(p3:Nat)(p4:Option Addr)(p5:Nat)(p6:Nat)(p7:Option Addr)(p8:Nat)(p9:Nat)(p10:Option Addr)(p11:Nat)(p12:Nat)(p13:Bool)(p14:Option Addr)(p15:Nat)(p16:Nat)(p17:Option Addr)(p18:Nat)(p19:Nat)(p20:Option Addr)(p21:Nat)(p22:Nat):Obj:=.cells #[.string p0,.slice p1 p2 p3,.slice p4 p5 p6,.slice p7 p8 p9,.slice p10 p11 p12,.bool p13,.slice p14 p15 p16,.slice p17 p18 p19,.slice p20 p21 p22] 132
abbrev nZ(p0:Int)(p1:Int)(p2:bA)(p3:bA)(p4:Option Addr)(p5:Nat)(p6:Nat):Value:=.agg #[.int .i64 p0,.int .i64 p1,.string p2,.string p3,.slice p4 p5 p6]
abbrev oBx11(p0:bA)(p1:Bool)(p2:Option Addr)(p3:Nat)(p4:Nat)(p5:Int)(p6:Option Addr)(p7:Nat)(p8:Nat)(p9:Int)(p10:Int)(p11:Int)(p12:bA)(p13:bA)(p14:Option Addr)(p15:Nat)(p16:Nat)(p17:Option Addr)(p18:Nat)(p19:Nat):Value:=.agg #[.string p0,.bool p1,.slice p2 p3 p4,.int .i64 p5,.slice p6 p7 p8,.int .i64 p9,.int .i64 p10,.int .i64 p11,.string p12,.string p13,.slice p14 p15 p16,.slice p17 p18 p19]
abbrev nS(p0:Int)(p1:Int)(p2:bA)(p3:bA)(p4:Value)(p5:Value):Value:=.agg #[.int .i64 p0,.int .i64 p1,.string p2,.string p3,p4,p5]
abbrev eP(p0:bA):Obj:=.cells #[.string p0] 9
abbrev lH(p0:Int)(p1:Option Addr)(p2:Nat)(p3:Nat):Obj:=.cells #[.int .i64 p0,.slice p1 p2 p3] 175
abbrev iN(p0:Int):Obj:=.cells #[.int .i64 p0] 3
abbrev mQ(p0:Option Addr)(p1:Nat)(p2:Nat)(p3:Option Addr)(p4:Nat)(p5:Nat)(p6:Option Addr)(p7:Nat)(p8:Nat):Value:=.agg #[.slice p0 p1 p2,.slice p3 p4 p5,.slice p6 p7 p8]
abbrev oBx17(p0:bA)(p1:Int)(p2:Int):Obj:=.cells #[.string p0,.int .i64 p1,.int .i64 p2] 280
abbrev rK(p0:Int)(p1:Option Addr)(p2:Nat)(p3:Nat)(p4:bA):Obj:=.cells #[.int .i64 p0,.slice p1 p2 p3,.string p4] 59
abbrev nY(p0:Int)(p1:Value)(p2:bA)(p3:Bool):Value:=.agg #[.int .i64 p0,p1,.string p2,.bool p3]
abbrev oBx20(p0:Option Addr)(p1:Nat)(p2:Nat)(p3:Option Addr)(p4:Nat)(p5:Nat)(p6:Int):Obj:=.cells #[.slice p0 p1 p2,.slice p3 p4 p5,.int .i64 p6] 182
abbrev pJ(p0:bA)(p1:bA):Obj:=.cells #[.string p0,.string p1] 40
abbrev oBx22(p0:Int)(p1:Int):Obj:=.cells #[.int .i64 p0,.int .i64 p1] 31
abbrev oBx23(p0:bA)(p1:Option Addr)(p2:Nat)(p3:Nat)(p4:Option Addr)(p5:Nat)(p6:Nat)(p7:Option Addr)(p8:Nat)(p9:Nat)(p10:Option Addr)(p11:Nat)(p12:Nat)(p13:Bool)(p14:Option Addr)(p15:Nat)(p16:Nat)(p17:Option Addr)(p18:Nat)(p19:Nat)(p20:Option Addr)(p21:Nat)(p22:Nat):Value:=.agg #[.string p0,.slice p1 p2 p3,.slice p4 p5 p6,.slice p7 p8 p9,.slice p10 p11 p12,.bool p13,.slice p14 p15 p16,.slice p17 p18 p19,.slice p20 p21 p22]
abbrev oBx24(p0:Int)(p1:Option Addr)(p2:Nat)(p3:Nat)(p4:bA)(p5:Bool):Obj:=.cells #[.int .i64 p0,.slice p1 p2 p3,.string p4,.bool p5] 24
abbrev oBx25(p0:Option Addr)(p1:Nat)(p2:Nat)(p3:Option Addr)(p4:Nat)(p5:Nat)(p6:bA):Value:=.agg #[.slice p0 p1 p2,.slice p3 p4 p5,.string p6]
abbrev oBx26(p0:Int)(p1:Value)(p2:bA)(p3:Bool):Obj:=.cells #[.int .i64 p0,p1,.string p2,.bool p3] 24
abbrev oBx27(p0:Option Addr)(p1:Nat)(p2:Nat)(p3:Int):Obj:=.cells #[.slice p0 p1 p2,.int .i64 p3] 162
abbrev oBx28(p0:bA)(p1:Int)(p2:Int)(p3:Option Addr)(p4:Nat)(p5:Nat):Value:=.agg #[.string p0,.int .i64 p1,.int .i64 p2,.slice p3 p4 p5]
abbrev oBx29(p0:Option Addr)(p1:Nat)(p2:Nat)(p3:Option Addr)(p4:Nat)(p5:Nat)(p6:Option Addr)(p7:Nat)(p8:Nat)(p9:Option Addr)(p10:Nat)(p11:Nat)(p12:Int)(p13:Int):Obj:=.cells #[.slice p0 p1 p2,.slice p3 p4 p5,.slice p6 p7 p8,.slice p9 p10 p11,.int .i64 p12,.int .i64 p13] 87
abbrev oBx30(p0:Int)(p1:bA)(p2:Int)(p3:Int):Value:=.agg #[.int .i64 p0,.string p1,.int .i64 p2,.int .i64 p3]
abbrev oBx31(p0:Int)(p1:Int)(p2:bA)(p3:bA)(p4:Value)(p5:Value):Obj:=.cells #[.int .i64 p0,.int .i64 p1,.string p2,.string p3,p4,p5] 177
abbrev oBx32(p0:bA)(p1:Int)(p2:Option Addr)(p3:Nat)(p4:Nat):Value:=.agg #[.string p0,.int .i64 p1,.slice p2 p3 p4]
abbrev oBx33(p0:Option Addr)(p1:Nat)(p2:Nat)(p3:Value):Obj:=.cells #[.slice p0 p1 p2,p3] 113
abbrev oBx34(p0:Int)(p1:Option Addr)(p2:Nat)(p3:Nat)(p4:bA):Value:=.agg #[.int .i64 p0,.slice p1 p2 p3,.string p4]
abbrev oBx35(p0:Int):Obj:=.cells #[.int .i64 p0] 32
abbrev bY:=@heap_alloc_new
abbrev Yb:=@List.getElem?_eq_some_iff
theorem zh{p:Prop}(h:p):Hid p:=Lib.hid h
theorem aAM{p:Prop}(h:p:=by omega):p:=h
theorem aAN{p:Prop}(h:p:=by kernel_rfl):p:=h
theorem aAO{p:Prop}(h:p:=by decide):p:=h
theorem aAQ{p:Prop}(h:p:=by simp):p:=h
theorem aAR{p:Prop}(h:p:=by rw[yI.out,<-List.append_assoc,Lib.byteCells_append];exact tQ.out):p:=h
theorem aAS{p:Prop}(h:p:=by rw[wU.out,dW,<-List.append_assoc];exact wH.out):p:=h
theorem aAT{p:Prop}(h:p:=by injection e with e1 e2 e3;exact⟨e1,e3⟩):p:=h
theorem aAU{p:Prop}(h:p:=by have x0:=aC hW q0;have x1:=aC hW q1;have x2:=aC hW q2;have y0:=aC hW t0;have y1:=aC hW t1;go_simp):p:=h
theorem aAV{p:Prop}(h:p:=by go_num):p:=h
theorem aAW{p:Prop}(h:p:=by rw[beq_eq_false_iff_ne];omega):p:=h
theorem aAX{p:Prop}(h:p:=by rw[bG];exact⟨_,_,rfl,by decide,by decide,aL.nil _ _ _ _,(aL.of_block (N:=fun b=>w.heap.size<b/\b≠b5) (css:=[[.int .i64 op,.int .i64 n,.string s,.string m,.slice a1 n1 c1,.slice a2 n2 c2],[.int .i64 opc,.int .i64 nc,.string sc,.string mc,.slice pc qc rc,.slice tc uc vc]]) (bY w5 _) (by exact⟨by omega,by omega⟩) rfl (by simp) (fun i y c hy hc=>by match i,hy,hc with|0,hy,hc=>(cases hy;cases hc;exact aG _ _ _ _ _ _ (bU.later (aA w5 _)) wO.out.enc)|1,hy,hc=>(cases hy;cases hc;exact aG.wide (aG _ _ _ _ _ _ (bU.later (aA w5 _)) XO.out) fun b hb _=>⟨by have hb:w4.heap.size<=b:=hb;omega,by have hb:w4.heap.size<=b:=hb;omega⟩)) rfl (by decide):aL 6 cJ (fun b=>w.heap.size<b/\b≠b5) (w5.alloc (rJ op n s m a1 n1 c1 a2 n2 c2 opc nc sc mc pc qc rc tc uc vc)) (.slice (some ⟨w5.heap.size,0,none⟩) 2 2) [x,xb])⟩):p:=h
theorem aAY{p:Prop}(h:p:=by unfold maxLen;omega):p:=h
theorem aAZ{p:Prop}(h:p:=by simp[results,Tryz.results236,go_sem,r0,r1,r2,r3,r4,r5]):p:=h
theorem aA0{p:Prop}(h:p:=by simp;omega):p:=h
theorem aA1{p:Prop}(h:p:=by simp[Value.oneCell']):p:=h
theorem aA2{p:Prop}(h:p:=by rw[beq_eq_false_iff_ne];intro e;exact tJ (bJ e)):p:=h
theorem aA3{p:Prop}(h:p:=by unfold aV;rw[if_neg k1,if_neg (show ¬isP p.l i eA=true by rw[qt];simp),if_neg (show ¬isP p.l i cY=true by rw[qf];simp),if_neg (show ¬isP p.l i jJ=true by rw[qg];simp),if_neg (show ¬((aJ p.l i).kind=0/\dJ (aJ p.l i).text≠0) from fun h=>k0 h.1),if_neg (show ¬isP p.l i cL=true by rw[qb];simp),if_neg (show ¬isP p.l i cO=true by rw[qo];simp)];try rfl):p:=h
theorem aA4{p:Prop}(h:p:=by unfold aV;rw[if_neg k1,if_neg (show ¬isP p.l i eA=true by rw[qt];simp),if_neg (show ¬isP p.l i cY=true by rw[qf];simp),if_neg (show ¬isP p.l i jJ=true by rw[qg];simp),if_neg (show ¬((aJ p.l i).kind=0/\dJ (aJ p.l i).text≠0) from fun h=>h.2 kb),if_neg (show ¬isP p.l i cL=true by rw[qb];simp),if_neg (show ¬isP p.l i cO=true by rw[qo];simp)];try rfl):p:=h
theorem aA5{p:Prop}(h:p:=by rcases e with e|e<;>omega):p:=h
theorem aA6{p:Prop}(h:p:=by rw[beq_eq_false_iff_ne];exact k1):p:=h
theorem aA7{p:Prop}(h:p:=by rw[beq_eq_false_iff_ne];intro e;exact uC (bJ e)):p:=h
theorem aA8{p:Prop}(h:p:=by go_simp<;>omega):p:=h
theorem aA9{p:Prop}(h:p:=by obtain⟨V9,hV⟩:=hW;have q5:=hV.off.cell CO r5;have zy0:=hV.off.cell uP I6;have zy1:=hV.off.cell uP I5;have zy2:=hV.off.cell uP EP;have zy3:=hV.off.cell uP hy3;have zy4:=hV.off.cell uP hy4;have zy5:=hV.off.cell uP hy5;go_simp):p:=h
theorem aBa{p:Prop}(h:p:=by first|(rw[HR.out];done)|(rw[HR.out];simp)):p:=h
theorem aBb{p:Prop}(h:p:=by have:=h.blt;omega):p:=h
theorem aBc{p:Prop}(h:p:=by simp[results,Tryz.results158,go_sem]):p:=h
theorem aBd{p:Prop}(h:p:=by first|(rw[HM.out];done)|(rw[HM.out];rfl)|(rw[HM.out];simp)):p:=h
theorem aBe{p:Prop}(h:p:=by have h1:=hb.1;show w.heap.size<=b;omega):p:=h
theorem aBg{p:Prop}(h:p:=by have hb:b=p.pb:=hb;omega):p:=h
theorem aBh{p:Prop}(h:p:=by rw[Bool.eq_iff_iff];simp;omega):p:=h
theorem aBi{p:Prop}(h:p:=by cases h;kernel_rfl):p:=h
theorem aBj{p:Prop}(h:p:=by unfold Func.isWrapper;first|(rw[if_pos (by decide+kernel)];kernel_rfl)|(rw[if_neg (by decide+kernel)];exact⟨rfl,rfl⟩)):p:=h
theorem aBk{p:Prop}(h:p:=by rw[HF.out]):p:=h
theorem aBl{p:Prop}(h:p:=by rw[bG];exact⟨_,_,rfl,by decide,by decide,aL.nil _ _ _ _,aL.nil _ _ _ _⟩):p:=h
theorem aBm{p:Prop}(h:p:=by rfl):p:=h
theorem aBn{p:Prop}(h:p:=by simpa using h):p:=h
theorem aBo{p:Prop}(h:p:=by obtain⟨y0,y1,y2,y3,y4⟩:=(bx5 (aD hW uS.out)).1;go_simp<;>omega):p:=h
theorem aBp{p:Prop}(h:p:=by have r0:=aC hW r0;have r1:=aC hW r1;have r2:=aC hW r2;go_simp):p:=h
theorem aBq{p:Prop}(h:p:=by go_simp):p:=h
theorem aBr{p:Prop}(h:p:=by rw[HR.out];rfl):p:=h
theorem aBs{p:Prop}(h:p:=by have hb:b=p.pb:=hb;have:=HW.out.blt;omega):p:=h
theorem aBt{p:Prop}(h:p:=by have DD:(0:Int)<=(q:Int)-1:=(by omega);have JI:(q:Int)-1<(fs.length:Int):=(by omega);have Q9:((q:Int)-1).toNat=q-1:=(by omega);have hi4:¬(q:Int)<1:=(by omega);go_simp):p:=h
theorem aBu{p:Prop}(h:p:=by rw[IntKind.wrap_i64];omega):p:=h
theorem aBv{p:Prop}(h:p:=by obtain⟨V9,hV⟩:=hW;have q5:=hV.off.cell CO r5;go_simp):p:=h
theorem aBw{p:Prop}(h:p:=by have:=HB.out.1;omega):p:=h
theorem aBx{p:Prop}(h:p:=by cases h):p:=h
theorem aBy{p:Prop}(h:p:=by have h1:=hn.1;rcases hb with(e|e|e|e)|e<;>omega):p:=h
theorem aBz{p:Prop}(h:p:=by rw[HM.out,fns_bad HX.out (.inr (.inr (by rw[HR.out];rfl))) RY.out];simp):p:=h
theorem aBA{p:Prop}(h:p:=by simp<;>omega):p:=h
theorem aBB{p:Prop}(h:p:=by have hb:w4.heap.size<=b:=hb;omega):p:=h
theorem aBC{p:Prop}(h:p:=by simpa using bY ((w7.setCell ⟨w6.heap.size,1,none⟩ (.int .i64 k)).setCell ⟨w6.heap.size,2,none⟩ (.slice sa sn sc)) (cX a k sa sn sc)):p:=h
theorem aBD{p:Prop}(h:p:=by rw[beq_eq_false_iff_ne];exact k0):p:=h
theorem aBE{p:Prop}(h:p:=by rw[bne_eq_false_iff_eq];exact hA):p:=h
theorem aBF{p:Prop}(h:p:=by simp at h):p:=h
theorem aBG{p:Prop}(h:p:=by rw[bG];exact⟨_,_,rfl,AF,by decide,aL.nil _ _ _ _,aL.nil _ _ _ _⟩):p:=h
theorem aBH{p:Prop}(h:p:=by obtain⟨a,c,e,hl,-⟩:=stps_at h.stp;exact hl):p:=h
theorem aBI{p:Prop}(h:p:=by simp[iW] at vH;omega):p:=h
theorem aBJ{p:Prop}(h:p:=by have:=hg.size;simpa using this):p:=h
theorem aBK{p:Prop}(h:p:=by rw[beq_iff_eq];exact k0):p:=h
theorem aBL{p:Prop}(h:p:=by simp[txV,results,Tryz.results75,go_sem]):p:=h
theorem aBM{p:Prop}(h:p:=by injection e' with e1 e2 e3;exact⟨e1,e3⟩):p:=h
theorem aBN{p:Prop}(h:p:=by rw[OpenClaim.pre_eq_preRow];exact lifted os started H enc F):p:=h
theorem aBO{p:Prop}(h:p:=by have x0:=aC hW q0;have x1:=aC hW q1;have x2:=aC hW q2;have y0:=aC hW t0;have y1:=aC hW t1;have z0:=aC hW hp0;go_simp):p:=h
theorem aBP{p:Prop}(h:p:=by have h:=JL.out;rw[XE.out] at h;exact h):p:=h
theorem aBQ{p:Prop}(h:p:=by have:=HS.out.blt;intro e;have e:w.heap.size=p.pb:=e;omega):p:=h
theorem aBR{p:Prop}(h:p:=by rw[vQ.out,tT];simp[BG]):p:=h
theorem aBS{p:Prop}(h:p:=by simpa[aU] using sB):p:=h
theorem aBT{p:Prop}(h:p:=by simp[results,Tryz.results218,go_sem,r0,r1,r2,r3,r4,r5]):p:=h
theorem aBU{p:Prop}(h:p:=by simp[results,Tryz.results29,go_sem]):p:=h
theorem aBV{p:Prop}(h:p:=by rcases hb with e|e<;>omega):p:=h
theorem aBW{p:Prop}(h:p:=by rw[sK.out,AR,List.drop_length];rfl):p:=h
theorem aBX{p:Prop}(h:p:=by have hn:B4<=b:=hn;rcases hb with(e|e|e|e)|e<;>omega):p:=h
theorem aBY{p:Prop}(h:p:=by simpa using this):p:=h
theorem aBZ{p:Prop}(h:p:=by have hb:w6.heap.size<=b:=hb;omega):p:=h
theorem aB0{p:Prop}(h:p:=by rw[beq_eq_false_iff_ne];exact h1):p:=h
theorem aB1{p:Prop}(h:p:=by have h:=hj 0 _ rfl;simpa using h):p:=h
theorem aB2{p:Prop}(h:p:=by rw[wM];rfl):p:=h
theorem aB3{p:Prop}(h:p:=by rw[bne_iff_ne];exact he):p:=h
theorem aB4{p:Prop}(h:p:=by have:=HB.out;have:=OQ.out;omega):p:=h
theorem aB5{p:Prop}(h:p:=by rw[HI.out.len];exact CP):p:=h
theorem aB6{p:Prop}(h:p:=by have:=(A6.out.own b2 e).2;omega):p:=h
theorem aB7{p:Prop}(h:p:=by rw[wM];simp):p:=h
theorem aB8{p:Prop}(h:p:=by have e:w6.heap.size=p.pb:=e;have:=wD.blt;omega):p:=h
theorem aB9{p:Prop}(h:p:=by simpa[Value.ownBlock] using hb):p:=h
theorem aCa{p:Prop}(h:p:=by simpa[Value.ownBlock] using e):p:=h
theorem aCb{p:Prop}(h:p:=by simpa using sM):p:=h
theorem aCc{p:Prop}(h:p:=by have hwq:IntKind.i64.wrap ((q:Int)-1)=(q:Int)-1:=(by rw[IntKind.wrap_i64];omega);go_simp):p:=h
theorem aCd{p:Prop}(h:p:=by rw[<-h.map];exact List.mem_map.2 ⟨y,hy,rfl⟩):p:=h
theorem aCe{p:Prop}(h:p:=by have hb:B4<=b:=hb;show w.heap.size<=b;omega):p:=h
theorem aCf{p:Prop}(h:p:=by rcases hk with e|e|e<;>omega):p:=h
theorem aCg{p:Prop}(h:p:=by decide+kernel):p:=h
theorem aCj{p:Prop}(h:p:=by simp[Value.ownBlock]):p:=h
theorem aCk{p:Prop}(h:p:=by rw[hq];simp):p:=h
theorem aCl{p:Prop}(h:p:=by have PD:IntKind.i64.wrap (d:Int)=(d:Int):=(by rw[IntKind.wrap_i64];omega);go_simp):p:=h
theorem aCm{p:Prop}(h:p:=by rw[List.length_take];omega):p:=h
theorem aCn{p:Prop}(h:p:=by rw[N6.out];simp):p:=h
theorem aCo{p:Prop}(h:p:=by obtain⟨V9,hV⟩:=hW;have q5:=hV.off.cell KK r5;have q2:=hV.off.cell KK r2;go_simp):p:=h
theorem aCp{p:Prop}(h:p:=by rw[EG.out];exact CF):p:=h
theorem aCq{p:Prop}(h:p:=by simp[txV,results,Tryz.results41,go_sem]):p:=h
theorem aCr{p:Prop}(h:p:=by simp[txV,results,Tryz.results45,go_sem]):p:=h
theorem aCs{p:Prop}(h:p:=by simp[fiV,results,Tryz.results46,go_sem]):p:=h
theorem aCt{p:Prop}(h:p:=by simp[fiV,results,Tryz.results48,go_sem]):p:=h
theorem aCu{p:Prop}(h:p:=by have hb:w20.heap.size<=b:=hb;have:=EC.out.lt;exact⟨by omega,by omega,by omega⟩):p:=h
theorem aCv{p:Prop}(h:p:=by injection wC):p:=h
theorem aCw{p:Prop}(h:p:=by have hb:b=p.pb:=hb;have:=hW.blt;omega):p:=h
theorem aCx{p:Prop}(h:p:=by obtain⟨y0,y1,y2,y3⟩:=bx4 hW.1;go_simp):p:=h
theorem aCy{p:Prop}(h:p:=by exact⟨by omega,by omega⟩):p:=h
theorem aCz{p:Prop}(h:p:=by simp[results,Tryz.results140,go_sem,r0,r1,r2,r3,r4,r5,r6,r7,r8,r9,r10,r11]):p:=h
theorem aCA{p:Prop}(h:p:=by simpa using he):p:=h
theorem aCB{p:Prop}(h:p:=by simp[results,Tryz.results107,go_sem]):p:=h
theorem aCC{p:Prop}(h:p:=by rw[<-S7];exact aN (Below.refl _ _) _):p:=h
theorem aCD{p:Prop}(h:p:=by cases hh:aT files with|true=>rfl|false=>exact absurd (.inr (.inl hh)) tL):p:=h
theorem aCE{p:Prop}(h:p:=by simpa using ‹(!isP p.l xQ bT)=true›):p:=h
theorem aCF{p:Prop}(h:p:=by simp[results,Tryz.results49,go_sem]):p:=h
theorem aCG{p:Prop}(h:p:=by rw[iF];exact⟨_,rfl,aL.nil _ _ _ _⟩):p:=h
theorem aCH{p:Prop}(h:p:=by simpa using ‹(!isP p.l j bT)=true›):p:=h
theorem aCI{p:Prop}(h:p:=by have hb:B<=b:=hb;omega):p:=h
theorem aCJ{p:Prop}(h:p:=by have sD:b=b5:=sD;omega):p:=h
theorem aCK{p:Prop}(h:p:=by obtain⟨⟨z0,z1,z2,z3,z4,z5,z6,z7,z8,z9,z10,z11⟩,-⟩:=mJ hW.1;go_simp):p:=h
theorem aCM{p:Prop}(h:p:=by rw[beq_eq_false_iff_ne];exact k2):p:=h
theorem aCN{p:Prop}(h:p:=by have h:=zJ 0 _ rfl;simpa using h):p:=h
theorem aCO{p:Prop}(h:p:=by rw[beq_eq_false_iff_ne];exact ha):p:=h
theorem aCP{p:Prop}(h:p:=by simp[Value.ownBlock] at hk;omega):p:=h
theorem aCQ{p:Prop}(h:p:=by have h:=DB 0 _ rfl;simpa using h):p:=h
theorem aCR{p:Prop}(h:p:=by have h:=DB 1 _ rfl;simpa using h):p:=h
theorem aCS{p:Prop}(h:p:=by have h:=DB 2 _ rfl;simpa using h):p:=h
theorem aCT{p:Prop}(h:p:=by have h:=DB 3 _ rfl;simpa using h):p:=h
theorem aCU{p:Prop}(h:p:=by have h:=DB 4 _ rfl;simpa using h):p:=h
theorem aCV{p:Prop}(h:p:=by have h:=DB 5 _ rfl;simpa using h):p:=h
theorem aCW{p:Prop}(h:p:=by have h:=DA 0 _ rfl;simpa using h):p:=h
theorem aCX{p:Prop}(h:p:=by have h:=DA 1 _ rfl;simpa using h):p:=h
theorem aCY{p:Prop}(h:p:=by have h:=DA 2 _ rfl;simpa using h):p:=h
theorem aCZ{p:Prop}(h:p:=by have h:=DA 3 _ rfl;simpa using h):p:=h
theorem aC0{p:Prop}(h:p:=by have h:=DA 4 _ rfl;simpa using h):p:=h
theorem aC1{p:Prop}(h:p:=by have h:=DA 5 _ rfl;simpa using h):p:=h
theorem aC2{p:Prop}(h:p:=by show(2:Nat)<=_;decide):p:=h
theorem aC3{p:Prop}(h:p:=by rw[beq_eq_false_iff_ne];exact wY):p:=h
theorem aC4{p:Prop}(h:p:=by rw[DQ];exact sM):p:=h
theorem aC5{p:Prop}(h:p:=by simp[results,Tryz.results110,go_sem,r0,r1,r2,r3,r4,r5,r6,r7,r8]):p:=h
theorem aC6{p:Prop}(h:p:=by obtain⟨_,_,_,h1,h2,-⟩:=hr;omega):p:=h
theorem aC7{p:Prop}(h:p:=by rw[bI];exact decide_eq_false wM):p:=h
theorem aC8{p:Prop}(h:p:=by unfold gN;rw[hq];rfl):p:=h
theorem aC9{p:Prop}(h:p:=by simp[results,Tryz.results84,go_sem,r0,r1,r2,r3,r4,r5,r6,r7,r8]):p:=h
theorem aDa{p:Prop}(h:p:=by rw[bne_iff_ne];omega):p:=h
theorem aDb{p:Prop}(h:p:=by cases hh:aM s with|true=>rfl|false=>exact absurd (.inl hh) tL):p:=h
theorem aDc{p:Prop}(h:p:=by have p0:=aC hW p0;have p1:=aC hW p1;have p2:=aC hW p2;go_simp):p:=h
theorem aDd{p:Prop}(h:p:=by simpa using tC):p:=h
theorem aDe{p:Prop}(h:p:=by simpa using hy):p:=h
theorem aDf{p:Prop}(h:p:=by rw[bG];exact⟨_,_,rfl,by decide,by decide,aL.nil _ _ _ _,B7⟩):p:=h
theorem aDg{p:Prop}(h:p:=by rw[bG];exact⟨_,_,rfl,by decide,by decide,aL.nil _ _ _ _,IF⟩):p:=h
theorem aDh{p:Prop}(h:p:=by have h1:=hn.2;omega):p:=h
theorem aDi{p:Prop}(h:p:=by have h:=AD;unfold iM at h;split at h;(assumption);(cases h)):p:=h
theorem aDj{p:Prop}(h:p:=by have q1:=hW;go_simp):p:=h
end Go.Proofs.YtacgopankhpnbaaGreatDoor
namespace Go.Proofs.YtacgopankhpnbaaGreatDoor
open Go.RowKit Go.Maps
structure KeyC (P:Program) (t:TypeId) (κ:Type) where
 lit:κ->Lit
 val:κ->Value
 ok:κ->Prop
 inj:∀a b,lit a=lit b->a=b
 key:∀a,ok a->keyOf P t (val a)=some (lit a)
 keyed:Keyed P t
 isKey:∀a,WideAt.IsKeyLit (lit a)
structure ValC (P:Program) (t:TypeId) (ν:Type) where
 lit:ν->Lit
 val:ν->Value
 ok:ν->Prop
 zero:ν
 zok:ok zero
 rd:∀x,ok x->plainElem (H:=Unit) P t (val x)=some (.lit (lit x),[])
 inv:∀v x ps,plainElem (H:=Unit) P t v=some (.lit (lit x),ps)->v=val x
 zrun:∀w,(zeroValue t).run P w=.ok (val zero) w
theorem jA{s t:bA}(h:s.data.toList=t.data.toList):s=t:=by
 cases s;cases t;congr;exact Array.toList_inj.1 h
section
variable {P:Program} {t:TypeId}
def strKey(h:P.underlying t=some .string):KeyC P t bA where
 lit s:=.string s.data.toList
 val:=.string
 ok s:=s.size<=maxLen
 inj a b h:=jA (by simpa using h)
 key a ha:=Go.WideMaps.keyOf_string_mk h ha
 keyed:=string_keyed h
 isKey _:=trivial
def intKey(h:P.underlying t=some (.int .i64)):KeyC P t Int where
 lit:=.int .i64
 val:=.int .i64
 ok n:=(Lit.int .i64 n).wf=true
 inj a b h:=by simpa using h
 key a ha:=keyOf_int_mk h ha
 keyed:=int_keyed h
 isKey _:=trivial
def boolVal(h:P.underlying t=some .bool)(hz:∀w,(zeroValue t).run P w=.ok (.bool false) w):ValC P t Bool where
 lit:=.bool
 val:=.bool
 ok _:=True
 zero:=false
 zok:=trivial
 rd x _:=plainElem_bool h x
 inv v x ps hv:=by
  unfold plainElem at hv;rw[h] at hv;cases v<;>simp at hv;rw[hv.1]
 zrun:=hz
def intVal(h:P.underlying t=some (.int .i64))(hz:∀w,(zeroValue t).run P w=.ok (.int .i64 0) w):ValC P t Int where
 lit:=.int .i64
 val:=.int .i64
 ok n:=(Lit.int .i64 n).wf=true
 zero:=0
 zok:=by decide
 rd x hx:=plainElem_int h hx
 inv v x ps hv:=by
  obtain⟨a,rfl,e,-⟩:=plainElem_int_inv h hv;simp at e;rw[e.1]
 zrun:=hz
def strVal(h:P.underlying t=some .string)(hz:∀w,(zeroValue t).run P w=.ok (.string ByteArray.empty) w):ValC P t bA where
 lit s:=.string s.data.toList
 val:=.string
 ok s:=s.size<=maxLen
 zero:=ByteArray.empty
 zok:=by decide
 rd x hx:=plainElem_string h hx
 inv v x ps hv:=by
  unfold plainElem at hv;rw[h] at hv;cases v<;>simp at hv;exact congrArg Value.string (jA (by simpa using congrArg Array.toList hv.2.1))
 zrun:=hz
end
section
variable {P:Program} {kt et t:TypeId} {κ ν:Type} {K:KeyC P kt κ} {V:ValC P et ν} {w:World} {b n:Nat} {m:κ->Option ν}
def aX(K:KeyC P kt κ)(V:ValC P et ν)(w:World)(b n:Nat)(m:κ->Option ν):Prop:=
 ∃D:DataW Unit,w.ownsMap P kt (plainElem P et) b n D/\∀x z,D.atKey (K.lit x) z=(match m x with|some v=>.lit (V.lit v)|none=>z)
theorem aX.made(w:World):aX K V (w.alloc (.map #[] 0)) w.heap.size 0 (fun _=>none):=
 ⟨.map [],World.ownsMap_made w P kt _,fun _ _=>rfl⟩
theorem aX.of_block{w':World}(h:aX K V w b n m)(hb:w'.heap[b]? =w.heap[b]?):aX K V w' b n m:=by
 obtain⟨D,⟨es,clock,h1,r⟩,h2⟩:=h;exact⟨D,⟨es,clock,hb.trans h1,r⟩,h2⟩
theorem aX.lt(h:aX K V w b n m):b<w.heap.size:=by obtain⟨D,h1,-⟩:=h;exact h1.lt
theorem aX.later{w':World}(h:aX K V w b n m)(hb:Below w.heap.size w w'):aX K V w' b n m:=h.of_block (hb.block b h.lt)
theorem aX.alloc(h:aX K V w b n m)(o:Obj):aX K V (w.alloc o) b n m:=h.of_block (Below.heap_alloc _ _ _ h.lt)
theorem aX.drew(h:aX K V w b n m):aX K V w.drew b n m:=h
theorem aX.setCell(h:aX K V w b n m){a:Addr}(ha:b≠a.block)(u:Value):aX K V (w.setCell a u) b n m:=h.of_block (Below.heap_setCell _ _ _ _ ha)
theorem aX.ext{m':κ->Option ν}(h:aX K V w b n m)(e:∀x,m x=m' x):aX K V w b n m':=by
 have:m=m':=funext e;exact this▸h
theorem aX.look(h:aX K V w b n m)(ht:P.underlying t=some (.map kt et)){x:κ}(hx:K.ok x):
  (Instr.lookup t (.map (some b)) (K.val x) false).run P w=.ok (V.val ((m x).getD V.zero)) w:=by
 obtain⟨D,h1,h2⟩:=h;obtain⟨v,ps,tW,hv⟩:=h1.lookup K.keyed ht (V.zrun w) (V.rd _ V.zok) (K.key x hx);rw[h2] at hv
 cases hm:m x with
 |none=>rw[hm] at hv;rw[tW,V.inv v _ ps hv];rfl
 |some y=>rw[hm] at hv;rw[tW,V.inv v _ ps hv];rfl
theorem aX.look2(h:aX K V w b n m)(ht:P.underlying t=some (.map kt et)){x:κ}(hx:K.ok x):
  (Instr.lookup t (.map (some b)) (K.val x) true).run P w=.ok (.tuple #[V.val ((m x).getD V.zero),.bool (m x).isSome]) w:=by
 obtain⟨D,h1,h2⟩:=h;obtain⟨v,ps,tW,hv⟩:=h1.look_ok K.keyed ht (V.zrun w) (V.rd _ V.zok) (K.key x hx);rw[h2] at hv
 cases hm:m x with
 |none=>
  rw[hm] at hv;have:Maps.has D (K.lit x)=false:=Maps.has_false_of_atKey fun z=>by rw[h2,hm]
  rw[tW,V.inv v _ ps hv,this];rfl
 |some y=>
  rw[hm] at hv;have:Maps.has D (K.lit x)=true:=Maps.has_true_of_atKey (y:=.lit (V.lit y)) fun z=>by rw[h2,hm]
  rw[tW,V.inv v _ ps hv,this];rfl
open Classical in
theorem aX.store(h:aX K V w b n m)(ht:P.underlying t=some (.map kt et))(hn:n<maxLen){x:κ}(hx:K.ok x){y:ν}(hy:V.ok y):
  ∃w',(Instr.mapUpdate t (.map (some b)) (K.val x) (V.val y)).run P w=.ok () w'/\aX K V w' b (n+1) (fun z=>if z=x then some y else m z)/\w.grownBy w' (some b):=by
 obtain⟨D,h1,h2⟩:=h;obtain⟨w',tW,h3,hg⟩:=h1.update K.keyed ht hn (K.key x hx) (V.rd y hy);refine⟨w',tW,⟨_,h3,fun z d=>?_⟩,hg⟩;by_cases hz:z=x
 ·subst hz;rw[atKey_put_same h1.isMap (K.isKey z)];simp
 rw[atKey_put_other (fun e=>hz (K.inj _ _ e)),h2];simp[hz]
theorem wpList_look{ops:Array Oper}{rest:List Oper}{o:Oper}{a:Act}{Q:Exit->Act->World->Prop}(hg:o.guard=none){mo xo:Operand}(vG:o.op=Op.lookup t mo xo false)
  (ht:P.underlying t=some (.map kt et)) (h:aX K V w b n m) (hm:a.eval mo=.map (some b)) {x:κ} (hx:K.ok x) (MH:a.eval xo=K.val x)
  (hK:wpList P ops Q rest (a.put o.dst (V.val ((m x).getD V.zero))) w):wpList P ops Q (o::rest) a w:=by
 refine wpList_plain hg fun K' hK'=>?_;have tW:=h.look ht hx;unfold Oper.wp;simp[execOp,vG,hm,MH,tW,Result.andThen];exact hK' _ _ hK
open Classical in
theorem wpList_put{ops:Array Oper}{rest:List Oper}{o:Oper}{a:Act}{Q:Exit->Act->World->Prop}(hg:o.guard=none){mo xo vo:Operand}(vG:o.op=Op.mapUpdate t mo xo vo)
  (ht:P.underlying t=some (.map kt et)) (h:aX K V w b n m) (hn:n<maxLen) (hm:a.eval mo=.map (some b)) {x:κ} (hx:K.ok x) (MH:a.eval xo=K.val x) {y:ν} (hy:V.ok y) (hye:a.eval vo=V.val y)
  (hK:∀w',aX K V w' b (n+1) (fun z=>if z=x then some y else m z)->w.grownBy w' (some b)->wpList P ops Q rest (a.put o.dst undef) w'):wpList P ops Q (o::rest) a w:=by
 refine wpList_plain hg fun K' hK'=>?_;obtain⟨w',tW,h1,h2⟩:=h.store ht hn hx hy;unfold Oper.wp;simp[execOp,vG,hm,MH,hye,tW,Result.andThen];exact hK' _ _ (hK w' h1 h2)
end
end Go.Proofs.YtacgopankhpnbaaGreatDoor
