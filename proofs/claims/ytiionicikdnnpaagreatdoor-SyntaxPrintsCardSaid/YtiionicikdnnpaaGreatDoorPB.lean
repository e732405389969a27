/- Texts of this seat, joined. -/
import Derived.Test.YtiionicikdnnpaaGreatDoorZb
import Derived.Test.YtiionicikdnnpaaGreatDoorProg
import Derived.Lib.Hide
import Derived.WalkSpells
import Derived.BigQuiet
import Derived.Shelf.Abstract
set_option linter.unusedVariables false
set_option linter.unusedSimpArgs false
set_option linter.constructorNameAsVariable false
namespace Go.Proofs.YtiionicikdnnpaaGreatDoor
open Go.RowKit
theorem T8{p:Prop}(h:p:=by
 exact gZ (hj 0 (cs[0]'(by omega)) (List.getElem?_eq_getElem _))):p:=h
theorem aF{a b:Bool}(h:a=b):Ending.returned (.bool a)=.returned (.bool b):=by rw[h]
theorem ret_int{k:IntKind}{a b:Int}(h:a=b):Ending.returned (.int k a)=.returned (.int k b):=by rw[h]
theorem ret_val{a b:Value}(h:a=b):Ending.returned a=.returned b:=by rw[h]
theorem take_snoc(s:bA)(k:Nat)(h:k<s.size):s.data.toList.take (k+1)=s.data.toList.take k++[s[k]]:=by
 rw[List.take_succ_eq_append_getElem (by simpa using h)];rfl
theorem gZ{w:World}{b o:Nat}{v:Value}(h:w.cell? ⟨b,o,none⟩=some v):b<w.heap.size:=by
 by_cases hb:b<w.heap.size
 ·exact hb
 have:w.heap[b]? =none:=Array.getElem?_eq_none (by omega);simp[World.cell?,this] at h
theorem aB{w w':World}(hb:Below w.heap.size w w'){b o:Nat}{v:Value}(h:w.cell? ⟨b,o,none⟩=some v):w'.cell? ⟨b,o,none⟩=some v:=
 (hb.cell (p:=⟨b,o,none⟩) (gZ h)).trans h
theorem aA{a b c:World}(h:Below a.heap.size a b)(k:Below b.heap.size b c):Below a.heap.size a c:=
 h.trans (k.mono h.size)
theorem alloc_self(w:World)(o:Obj):(w.alloc o).heap[w.heap.size]? =some o:=by
 show(w.heap.push o)[w.heap.size]? =some o;simp
theorem aC(w:World)(o:Obj):Below w.heap.size w (w.alloc o):=(Below.refl _ _).alloc (Nat.le_refl _) _
def Row{α:Type}(k:Nat)(enc:World->α->List Value->Prop)(w:World)(v:Value)(l:List α):Prop:=
 ∃a c,v=.slice a l.length c/\l.length<=c/\c<=9223372036854775807/\
  (l≠[]->∃b o,a=some ⟨b,o,none⟩/\∀i x,l[i]? =some x->∃cs,enc w x cs/\cs.length=k/\∀j u,cs[j]? =some u->w.cell? ⟨b,o+i*k+j,none⟩=some u)
theorem Row.later{α:Type}{k:Nat}{enc:World->α->List Value->Prop}{w w':World}{v:Value}{l:List α}(hb:Below w.heap.size w w')
  (he:∀x cs,enc w x cs->enc w' x cs) (h:Row k enc w v l):Row k enc w' v l:=by
 obtain⟨a,c,hv,h1,h2,h3⟩:=h;refine⟨a,c,hv,h1,h2,fun pP=>?_⟩;obtain⟨b,o,ha,hc⟩:=h3 pP;refine⟨b,o,ha,fun i x hx=>?_⟩;obtain⟨cs,e,hl,hj⟩:=hc i x hx;exact⟨cs,he x cs e,hl,fun j u hu=>aB hb (hj j u hu)⟩
def encStr1(_:World)(x:bA)(cs:List Value):Prop:=cs=[.string x]/\x.size<=140737488355328
def Strs(w:World)(v:Value)(l:List bA):Prop:=Row 1 encStr1 w v l
theorem Strs.later{w w':World}{v:Value}{l:List bA}(hb:Below w.heap.size w w')(h:Strs w v l):Strs w' v l:=
 Row.later hb (fun _ _ h=>h) h
def encInt1(_:World)(x:Int)(cs:List Value):Prop:=cs=[.int .i64 x]
def Ints(w:World)(v:Value)(l:List Int):Prop:=Row 1 encInt1 w v l
theorem Ints.later{w w':World}{v:Value}{l:List Int}(hb:Below w.heap.size w w')(h:Ints w v l):Ints w' v l:=
 Row.later hb (fun _ _ h=>h) h
theorem Row.cases{α:Type}{k:Nat}{enc:World->α->List Value->Prop}{w:World}{v:Value}{l:List α}(h:Row (k+1) enc w v l):
  (l=[]/\∃a c,v=.slice a 0 c)\/(∃b o c,v=.slice (some ⟨b,o,none⟩) l.length c/\0<l.length/\l.length<=c/\c<=9223372036854775807/\b<w.heap.size/\
   ∀i x,l[i]? =some x->∃cs,enc w x cs/\cs.length=k+1/\∀j u,cs[j]? =some u->w.cell? ⟨b,o+i*(k+1)+j,none⟩=some u):=by
 obtain⟨a,c,hv,h1,h2,h3⟩:=h
 cases l with
 |nil=>exact .inl ⟨rfl,a,c,hv⟩
 |cons x0 l=>
  obtain⟨b,o,ha,hc⟩:=h3 (by simp);refine .inr ⟨b,o,c,by rw[hv,ha],by simp,h1,h2,?_,hc⟩;obtain⟨cs,-,hl,hj⟩:=hc 0 x0 rfl;exact T8
theorem Strs.cases{w:World}{v:Value}{l:List bA}(h:Strs w v l):
  (l=[]/\∃a c,v=.slice a 0 c)\/(∃b o c,v=.slice (some ⟨b,o,none⟩) l.length c/\0<l.length/\l.length<=c/\c<=9223372036854775807/\b<w.heap.size/\
   ∀i x,l[i]? =some x->w.cell? ⟨b,o+i,none⟩=some (.string x)/\x.size<=140737488355328):=by
 rcases Row.cases h with h|⟨b,o,c,hv,h0,h1,h2,hb,hc⟩
 ·exact .inl h
 refine .inr ⟨b,o,c,hv,h0,h1,h2,hb,fun i x hx=>?_⟩;obtain⟨cs,⟨e,hs⟩,-,hj⟩:=hc i x hx;have:=hj 0 (.string x) (by rw[e];rfl);exact⟨by simpa using this,hs⟩
theorem Ints.cases{w:World}{v:Value}{l:List Int}(h:Ints w v l):
  (l=[]/\∃a c,v=.slice a 0 c)\/(∃b o c,v=.slice (some ⟨b,o,none⟩) l.length c/\0<l.length/\l.length<=c/\c<=9223372036854775807/\b<w.heap.size/\
   ∀i x,l[i]? =some x->w.cell? ⟨b,o+i,none⟩=some (.int .i64 x)):=by
 rcases Row.cases h with h|⟨b,o,c,hv,h0,h1,h2,hb,hc⟩
 ·exact .inl h
 refine .inr ⟨b,o,c,hv,h0,h1,h2,hb,fun i x hx=>?_⟩;obtain⟨cs,e,-,hj⟩:=hc i x hx;have:=hj 0 (.int .i64 x) (by rw[e];rfl);simpa using this
theorem getElem?_of_lt{α:Type}{l:List α}{k:Nat}(h:k<l.length):∃x,l[k]? =some x/\x∈l:=⟨l[k],List.getElem?_eq_getElem h,List.getElem_mem h⟩
abbrev aH(p0:Int)(p1:Int)(p2:bA)(p3:bA)(p4:Option Addr)(p5:Nat)(p6:Nat)(p7:Option Addr)(p8:Nat)(p9:Nat):Obj:=.cells #[.int .i64 p0,.int .i64 p1,.string p2,.string p3,.slice p4 p5 p6,.slice p7 p8 p9] 35
abbrev dU(p0:bA)(p1:Bool)(p2:Option Addr)(p3:Nat)(p4:Nat)(p5:Int)(p6:Option Addr)(p7:Nat)(p8:Nat)(p9:Int)(p10:Int)(p11:Int)(p12:bA)(p13:bA)(p14:Option Addr)(p15:Nat)(p16:Nat)(p17:Option Addr)(p18:Nat)(p19:Nat):Obj:=.cells #[.string p0,.bool p1,.slice p2 p3 p4,.int .i64 p5,.slice p6 p7 p8,.int .i64 p9,.int .i64 p10,.int .i64 p11,.string p12,.string p13,.slice p14 p15 p16,.slice p17 p18 p19] 47
abbrev bW(p0:Int)(p1:Int)(p2:bA)(p3:bA)(p4:Option Addr)(p5:Nat)(p6:Nat)(p7:Option Addr)(p8:Nat)(p9:Nat):Value:=.agg #[.int .i64 p0,.int .i64 p1,.string p2,.string p3,.slice p4 p5 p6,.slice p7 p8 p9]
abbrev fT(p0:Int)(p1:Int)(p2:bA)(p3:bA)(p4:Option Addr)(p5:Nat)(p6:Nat)(p7:Option Addr)(p8:Nat)(p9:Nat)(p10:Int)(p11:Int)(p12:bA)(p13:bA)(p14:Option Addr)(p15:Nat)(p16:Nat)(p17:Option Addr)(p18:Nat)(p19:Nat):Obj:=.cells #[.int .i64 p0,.int .i64 p1,.string p2,.string p3,.slice p4 p5 p6,.slice p7 p8 p9,.int .i64 p10,.int .i64 p11,.string p12,.string p13,.slice p14 p15 p16,.slice p17 p18 p19] 35
abbrev dX(p0:bA)(p1:Option Addr)(p2:Nat)(p3:Nat)(p4:Option Addr)(p5:Nat)(p6:Nat)(p7:Option Addr)(p8:Nat)(p9:Nat)(p10:Option Addr)(p11:Nat)(p12:Nat)(p13:Bool)(p14:Option Addr)(p15:Nat)(p16:Nat)(p17:Option Addr)(p18:Nat)(p19:Nat)(p20:Option Addr)(p21:Nat)(p22:Nat):Obj:=.cells #[.string p0,.slice p1 p2 p3,.slice p4 p5 p6,.slice p7 p8 p9,.slice p10 p11 p12,.bool p13,.slice p14 p15 p16,.slice p17 p18 p19,.slice p20 p21 p22] 30
abbrev dA(p0:Int)(p1:bA)(p2:Int)(p3:Int):Obj:=.cells #[.int .i64 p0,.string p1,.int .i64 p2,.int .i64 p3] 59
abbrev bZ(p0:bA)(p1:Int)(p2:Option Addr)(p3:Nat)(p4:Nat):Obj:=.cells #[.string p0,.int .i64 p1,.slice p2 p3 p4] 105
abbrev dT(p0:Int)(p1:Option Addr)(p2:Nat)(p3:Nat):Obj:=.cells #[.int .i64 p0,.slice p1 p2 p3] 45
abbrev oBx8(p0:Int)(p1:Int)(p2:bA)(p3:bA)(p4:Option Addr)(p5:Nat)(p6:Nat)(p7:Option Addr)(p8:Nat)(p9:Nat)(p10:Int)(p11:Int)(p12:bA)(p13:bA)(p14:Option Addr)(p15:Nat)(p16:Nat)(p17:Option Addr)(p18:Nat)(p19:Nat)(p20:Int)(p21:Int)(p22:bA)(p23:bA)(p24:Option Addr)(p25:Nat)(p26:Nat)(p27:Option Addr)(p28:Nat)(p29:Nat):Obj:=.cells #[.int .i64 p0,.int .i64 p1,.string p2,.string p3,.slice p4 p5 p6,.slice p7 p8 p9,.int .i64 p10,.int .i64 p11,.string p12,.string p13,.slice p14 p15 p16,.slice p17 p18 p19,.int .i64 p20,.int .i64 p21,.string p22,.string p23,.slice p24 p25 p26,.slice p27 p28 p29] 35
abbrev oA(p0:bA)(p1:Option Addr)(p2:Nat)(p3:Nat)(p4:Option Addr)(p5:Nat)(p6:Nat)(p7:Option Addr)(p8:Nat)(p9:Nat)(p10:Option Addr)(p11:Nat)(p12:Nat)(p13:Bool)(p14:Option Addr)(p15:Nat)(p16:Nat)(p17:Option Addr)(p18:Nat)(p19:Nat)(p20:Option Addr)(p21:Nat)(p22:Nat):Value:=.agg #[.string p0,.slice p1 p2 p3,.slice p4 p5 p6,.slice p7 p8 p9,.slice p10 p11 p12,.bool p13,.slice p14 p15 p16,.slice p17 p18 p19,.slice p20 p21 p22]
abbrev jA(p0:Int)(p1:Int)(p2:bA)(p3:bA)(p4:Value)(p5:Value):Value:=.agg #[.int .i64 p0,.int .i64 p1,.string p2,.string p3,p4,p5]
abbrev oBx11(p0:bA)(p1:Bool)(p2:Option Addr)(p3:Nat)(p4:Nat)(p5:Int)(p6:Option Addr)(p7:Nat)(p8:Nat)(p9:Int)(p10:Int)(p11:Int)(p12:bA)(p13:bA)(p14:Option Addr)(p15:Nat)(p16:Nat)(p17:Option Addr)(p18:Nat)(p19:Nat):Value:=.agg #[.string p0,.bool p1,.slice p2 p3 p4,.int .i64 p5,.slice p6 p7 p8,.int .i64 p9,.int .i64 p10,.int .i64 p11,.string p12,.string p13,.slice p14 p15 p16,.slice p17 p18 p19]
abbrev oV(p0:bA)(p1:Int)(p2:Int):Obj:=.cells #[.string p0,.int .i64 p1,.int .i64 p2] 166
abbrev mH(p0:Option Addr)(p1:Nat)(p2:Nat)(p3:Int):Obj:=.cells #[.slice p0 p1 p2,.int .i64 p3] 76
abbrev jS(p0:Int):Obj:=.cells #[.int .i64 p0] 3
abbrev kF(p0:bA):Obj:=.cells #[.string p0] 9
abbrev nT(p0:Value)(p1:Option Addr)(p2:Nat)(p3:Nat)(p4:Bool):Obj:=.cells #[p0,.slice p1 p2 p3,.bool p4] 102
abbrev oU(p0:Int):Obj:=.cells #[.int .i64 p0] 31
abbrev oBx18(p0:Int)(p1:bA)(p2:Int)(p3:Int):Value:=.agg #[.int .i64 p0,.string p1,.int .i64 p2,.int .i64 p3]
abbrev oBx19(p0:Int)(p1:Int)(p2:bA)(p3:bA)(p4:Value)(p5:Value):Obj:=.cells #[.int .i64 p0,.int .i64 p1,.string p2,.string p3,p4,p5] 35
abbrev bY:=@heap_alloc_new
abbrev Yb:=@List.getElem?_eq_some_iff
theorem zh{p:Prop}(h:p):Hid p:=Lib.hid h
theorem VS{p:Prop}(h:p:=by omega):p:=h
theorem VT{p:Prop}(h:p:=by kernel_rfl):p:=h
theorem VU{p:Prop}(h:p:=by decide):p:=h
theorem VV{p:Prop}(h:p:=by go_simp):p:=h
theorem VW{p:Prop}(h:p:=by have q0:=aB hW rG;have q1:=aB hW rF;have q2:=aB hW rI;have q3:=aB hW sG;have q4:=aB hW sF;have q5:=aB hW sD;go_simp):p:=h
theorem VX{p:Prop}(h:p:=by go_simp<;>omega):p:=h
theorem VY{p:Prop}(h:p:=by simp):p:=h
theorem VZ{p:Prop}(h:p:=by have q0:=aB hW vS;have q1:=aB hW vZ;have q2:=aB hW vY;have q3:=aB hW yO;have q4:=aB hW yN;have q5:=aB hW p25;go_simp):p:=h
theorem V1{p:Prop}(h:p:=by have x0:=aB hW q0;have x1:=aB hW q1;have x2:=aB hW q2;have y0:=aB hW t0;have y1:=aB hW t1;go_simp):p:=h
theorem V2{p:Prop}(h:p:=by rw[aN];exact⟨_,_,rfl,by decide,by decide,aO.nil _ _ _ _,(aO.of_block (N:=fun b=>w.heap.size<b/\b≠b5) (css:=[[.int .i64 op,.int .i64 n,.string s,.string m,.slice a1 n1 c1,.slice a2 n2 c2],[.int .i64 opc,.int .i64 nc,.string sc,.string mc,.slice pc qc rc,.slice tc uc vc]]) (bY w5 _) (by exact⟨by omega,by omega⟩) rfl (by simp) (fun i y c hy hc=>by match i,hy,hc with|0,hy,hc=>(cases hy;cases hc;exact aG _ _ _ _ _ _ (aK.later (aC w5 _)) uO.out.enc)|1,hy,hc=>(cases hy;cases hc;exact aG.wide (aG _ _ _ _ _ _ (aK.later (aC w5 _)) RM.out) fun b hb _=>⟨by have hb:w4.heap.size<=b:=hb;omega,by have hb:w4.heap.size<=b:=hb;omega⟩)) rfl (by decide):aO 6 aU (fun b=>w.heap.size<b/\b≠b5) (w5.alloc (fT op n s m a1 n1 c1 a2 n2 c2 opc nc sc mc pc qc rc tc uc vc)) (.slice (some ⟨w5.heap.size,0,none⟩) 2 2) [x,xb])⟩):p:=h
theorem V3{p:Prop}(h:p:=by simp[results,Tryz.results191,go_sem,r0,r1,r2,r3,r4,r5]):p:=h
theorem V4{p:Prop}(h:p:=by rcases e with e|e<;>omega):p:=h
theorem V5{p:Prop}(h:p:=by unfold aX;rw[if_neg k1,if_neg (show ¬isP p.l i cQ=true by rw[qt];simp),if_neg (show ¬isP p.l i bU=true by rw[qf];simp),if_neg (show ¬isP p.l i fY=true by rw[qg];simp),if_neg (show ¬((aM p.l i).kind=0/\cA (aM p.l i).text≠0) from fun h=>k0 h.1),if_neg (show ¬isP p.l i bJ=true by rw[qb];simp),if_neg (show ¬isP p.l i aY=true by rw[qo];simp)];try rfl):p:=h
theorem V6{p:Prop}(h:p:=by unfold aX;rw[if_neg k1,if_neg (show ¬isP p.l i cQ=true by rw[qt];simp),if_neg (show ¬isP p.l i bU=true by rw[qf];simp),if_neg (show ¬isP p.l i fY=true by rw[qg];simp),if_neg (show ¬((aM p.l i).kind=0/\cA (aM p.l i).text≠0) from fun h=>h.2 kb),if_neg (show ¬isP p.l i bJ=true by rw[qb];simp),if_neg (show ¬isP p.l i aY=true by rw[qo];simp)];try rfl):p:=h
theorem V7{p:Prop}(h:p:=by rw[beq_eq_false_iff_ne];omega):p:=h
theorem V8{p:Prop}(h:p:=by have q0:=aB hW x5;go_simp):p:=h
theorem V9{p:Prop}(h:p:=by rw[beq_eq_false_iff_ne];exact k1):p:=h
theorem WA{p:Prop}(h:p:=by have q0:=aB hW x0;have q1:=aB hW x1;have q2:=aB hW x2;have q3:=aB hW x3;have q4:=aB hW x4;have q5:=aB hW x5;have q6:=aB hW x6;have q7:=aB hW x7;have q8:=aB hW x8;go_simp):p:=h
theorem WB{p:Prop}(h:p:=by have q0:=aB hW y0;have q1:=aB hW y1;have q2:=aB hW y2;have q3:=aB hW y3;have q4:=aB hW y4;have q5:=aB hW y5;have q6:=aB hW y6;have q7:=aB hW y7;have q8:=aB hW y8;go_simp):p:=h
theorem WC{p:Prop}(h:p:=by rw[HR.out];simp):p:=h
theorem WF{p:Prop}(h:p:=by simp[Value.oneCell']):p:=h
theorem WG{p:Prop}(h:p:=by have:=h.blt;omega):p:=h
theorem WH{p:Prop}(h:p:=by go_num):p:=h
theorem WI{p:Prop}(h:p:=by rw[HF.out]):p:=h
theorem WJ{p:Prop}(h:p:=by rw[ByteArray.size_append];omega):p:=h
theorem WK{p:Prop}(h:p:=by have q0:=aB hW z0;have q1:=aB hW z1;have q2:=aB hW z2;have q3:=aB hW z3;have q4:=aB hW z4;have q5:=aB hW z5;go_simp):p:=h
theorem WL{p:Prop}(h:p:=by unfold maxLen;omega):p:=h
theorem WM{p:Prop}(h:p:=by first|(rw[HM.out];done)|(rw[HM.out];rfl)|(rw[HM.out];simp)):p:=h
theorem WN{p:Prop}(h:p:=by have h1:=hb.1;show w.heap.size<=b;omega):p:=h
theorem WO{p:Prop}(h:p:=by have q0:=aB hW p0;go_simp):p:=h
theorem WP{p:Prop}(h:p:=by rw[HR.out];rfl):p:=h
theorem WQ{p:Prop}(h:p:=by rw[decide_eq_false hk]):p:=h
theorem WR{p:Prop}(h:p:=by have hb:b=p.pb:=hb;omega):p:=h
theorem WS{p:Prop}(h:p:=by cases h;kernel_rfl):p:=h
theorem WT{p:Prop}(h:p:=by rw[decide_eq_true hk]):p:=h
theorem WU{p:Prop}(h:p:=by first|rfl|trivial):p:=h
theorem WV{p:Prop}(h:p:=by cases h):p:=h
theorem WX{p:Prop}(h:p:=by rw[Bool.eq_iff_iff];simp;omega):p:=h
theorem WY{p:Prop}(h:p:=by rw[IntKind.wrap_i64];omega):p:=h
theorem WZ{p:Prop}(h:p:=by rw[aN];exact⟨_,_,rfl,by decide,by decide,aO.nil _ _ _ _,aO.nil _ _ _ _⟩):p:=h
theorem W3{p:Prop}(h:p:=by rw[sS.out];simp):p:=h
theorem W4{p:Prop}(h:p:=by rw[dY];exact⟨_,rfl,aO.nil _ _ _ _⟩):p:=h
theorem W5{p:Prop}(h:p:=by have hb:b=p.pb:=hb;have:=HW.out.blt;omega):p:=h
theorem W6{p:Prop}(h:p:=by have LR:(0:Int)<=(q:Int)-1:=(by omega);have PN:(q:Int)-1<(fs.length:Int):=(by omega);have PM:((q:Int)-1).toNat=q-1:=(by omega);have hi4:¬(q:Int)<1:=(by omega);go_simp):p:=h
theorem W7{p:Prop}(h:p:=by rfl):p:=h
theorem W8{p:Prop}(h:p:=by have q0:=aB hW x2;go_simp):p:=h
theorem W9{p:Prop}(h:p:=by have q0:=aB hW x0;go_simp):p:=h
theorem XA{p:Prop}(h:p:=by have h:=HZ.out;first|exact h|(simp only[List.append_assoc] at h ⊢;exact h)):p:=h
theorem XB{p:Prop}(h:p:=by have:=HB.out.1;omega):p:=h
theorem XC{p:Prop}(h:p:=by have h1:=hn.1;rcases hb with(e|e|e|e)|e<;>omega):p:=h
theorem XD{p:Prop}(h:p:=by rw[HM.out,fns_bad HX.out (.inr (.inr (by rw[HR.out];rfl))) GG.out];simp):p:=h
theorem XE{p:Prop}(h:p:=by simpa using h):p:=h
theorem XF{p:Prop}(h:p:=by have hb:w4.heap.size<=b:=hb;omega):p:=h
theorem XG{p:Prop}(h:p:=by rw[ByteArray.size_append];have e2:(⟨#[44,32]⟩:bA).size=2:=rfl;omega):p:=h
theorem XH{p:Prop}(h:p:=by have h:=aB HW.out (pO 0 _ rfl);simpa using h):p:=h
theorem XJ{p:Prop}(h:p:=by simp;omega):p:=h
theorem XK{p:Prop}(h:p:=by simpa using bY ((w7.setCell ⟨w6.heap.size,1,none⟩ (.int .i64 k)).setCell ⟨w6.heap.size,2,none⟩ (.slice sa sn sc)) (bZ a k sa sn sc)):p:=h
theorem XL{p:Prop}(h:p:=by rw[beq_eq_false_iff_ne];exact k0):p:=h
theorem XM{p:Prop}(h:p:=by have h:=hj 0 _ rfl;simpa using h):p:=h
theorem XN{p:Prop}(h:p:=by rw[bne_eq_false_iff_eq];exact hA):p:=h
theorem XO{p:Prop}(h:p:=by have q0:=aB hW t0;have q1:=aB hW t1;go_simp):p:=h
theorem XP{p:Prop}(h:p:=by rw[aN];exact⟨_,_,rfl,xQ,by decide,aO.nil _ _ _ _,aO.nil _ _ _ _⟩):p:=h
theorem XQ{p:Prop}(h:p:=by decide+kernel):p:=h
theorem XR{p:Prop}(h:p:=by simp at h):p:=h
theorem XS{p:Prop}(h:p:=by rw[beq_iff_eq];exact k0):p:=h
theorem XT{p:Prop}(h:p:=by rw[HLM.out];show List.flatMap fI _=_;simp only[List.append_assoc,List.append_nil,Bool.false_eq_true,if_false,if_true]):p:=h
theorem XU{p:Prop}(h:p:=by have x0:=aB hW q0;have x1:=aB hW q1;have x2:=aB hW q2;have y0:=aB hW t0;have y1:=aB hW t1;have z0:=aB hW hp0;go_simp):p:=h
theorem XV{p:Prop}(h:p:=by have h:=tK.out;rw[Q5.out] at h;exact h):p:=h
theorem XW{p:Prop}(h:p:=by have:=HS.out.blt;intro e;have e:w.heap.size=p.pb:=e;omega):p:=h
theorem XX{p:Prop}(h:p:=by have q0:=aB hW y0;have q1:=aB hW y1;have q2:=aB hW y2;have q3:=aB hW y3;have q4:=aB hW y4;have q5:=aB hW y5;go_simp):p:=h
theorem XY{p:Prop}(h:p:=by have q0:=aB hW r6;have q1:=aB hW r7;have q2:=aB hW r8;have q3:=aB hW r9;have q4:=aB hW vX;have q5:=aB hW vW;go_simp):p:=h
theorem XZ{p:Prop}(h:p:=by rw[decide_eq_false hd]):p:=h
theorem X1{p:Prop}(h:p:=by simp[results,Tryz.results134,go_sem,r0,r1,r2,r3,r4,r5]):p:=h
theorem X2{p:Prop}(h:p:=by rw[decide_eq_true hd]):p:=h
theorem X3{p:Prop}(h:p:=by rcases hb with e|e<;>omega):p:=h
theorem X4{p:Prop}(h:p:=by rw[sS.out];rfl):p:=h
theorem X5{p:Prop}(h:p:=by rw[HL.out];rfl):p:=h
theorem X6{p:Prop}(h:p:=by have hn:B4<=b:=hn;rcases hb with(e|e|e|e)|e<;>omega):p:=h
theorem X7{p:Prop}(h:p:=by have hb:w6.heap.size<=b:=hb;omega):p:=h
theorem X8{p:Prop}(h:p:=by rw[HE.out]):p:=h
theorem X9{p:Prop}(h:p:=by have e:k=w2.heap.size+1:=e;omega):p:=h
theorem YB{p:Prop}(h:p:=by have:=HB.out;have:=KF.out;omega):p:=h
theorem YC{p:Prop}(h:p:=by rw[Int.tmod_eq_emod_of_nonneg (by omega)];omega):p:=h
theorem YD{p:Prop}(h:p:=by have e:w6.heap.size=p.pb:=e;have:=tW.blt;omega):p:=h
theorem YE{p:Prop}(h:p:=by rw[HR.out,mA uT.out (by rw[M1.out];simp)];simp):p:=h
theorem YF{p:Prop}(h:p:=by have e:k=w2.heap.size:=e;omega):p:=h
theorem YG{p:Prop}(h:p:=by simpa[Value.ownBlock] using e):p:=h
theorem YH{p:Prop}(h:p:=by simpa using qW):p:=h
theorem YI{p:Prop}(h:p:=by rw[HV.out];rfl):p:=h
theorem YJ{p:Prop}(h:p:=by have hwq:IntKind.i64.wrap ((q:Int)-1)=(q:Int)-1:=(by rw[IntKind.wrap_i64];omega);go_simp):p:=h
theorem YK{p:Prop}(h:p:=by have q0:=aB hW rF;have q1:=aB hW rI;go_simp):p:=h
theorem YL{p:Prop}(h:p:=by have hb:B4<=b:=hb;show w.heap.size<=b;omega):p:=h
theorem YM{p:Prop}(h:p:=by rw[hq];simp):p:=h
theorem YN{p:Prop}(h:p:=by have ER:IntKind.i64.wrap (d:Int)=(d:Int):=(by rw[IntKind.wrap_i64];omega);go_simp):p:=h
theorem YO{p:Prop}(h:p:=by have hb:w20.heap.size<=b:=hb;have:=A7.out.lt;exact⟨by omega,by omega,by omega⟩):p:=h
theorem YQ{p:Prop}(h:p:=by have q0:=aB hW rG;go_simp):p:=h
theorem YR{p:Prop}(h:p:=by have q0:=aB hW v3;go_simp):p:=h
theorem YS{p:Prop}(h:p:=by have q0:=aB hW f5;go_simp):p:=h
theorem YT{p:Prop}(h:p:=by have q0:=aB hW y4;go_simp):p:=h
theorem YU{p:Prop}(h:p:=by have hb:b=p.pb:=hb;have:=hW.blt;omega):p:=h
theorem YV{p:Prop}(h:p:=by exact⟨by omega,by omega⟩):p:=h
theorem YW{p:Prop}(h:p:=by simpa using he):p:=h
theorem YX{p:Prop}(h:p:=by have:=levels_pos x;omega):p:=h
theorem YY{p:Prop}(h:p:=by rw[bne,FM];rfl):p:=h
theorem YZ{p:Prop}(h:p:=by simp[results,Tryz.results119,go_sem,r0,r1,r2,r3,r4,r5,r6,r7,r8,r9,vX,vW]):p:=h
theorem Y0{p:Prop}(h:p:=by rw[beq_eq_false_iff_ne];intro e;have:=lR e;subst this;revert ht;simp[eP]):p:=h
theorem Y1{p:Prop}(h:p:=by simp[results,Tryz.results36,go_sem]):p:=h
theorem Y2{p:Prop}(h:p:=by simpa using ‹(!isP p.l uZ bE)=true›):p:=h
theorem Y3{p:Prop}(h:p:=by have:=depth_pos x;omega):p:=h
theorem Y4{p:Prop}(h:p:=by simpa using ‹(!isP p.l j bE)=true›):p:=h
theorem Y5{p:Prop}(h:p:=by rw[qO.out,uM,List.drop_length];rfl):p:=h
theorem Y6{p:Prop}(h:p:=by have hb:B<=b:=hb;omega):p:=h
theorem Y7{p:Prop}(h:p:=by have pM:b=b5:=pM;omega):p:=h
theorem Y8{p:Prop}(h:p:=by rw[List.take_zero];show WrS B wb (st.put []) v w;rw[iQ];exact HH.out):p:=h
theorem Y9{p:Prop}(h:p:=by rw[rN.out,vG];simp[BW]):p:=h
theorem ZA{p:Prop}(h:p:=by rw[show(d:Int)+1-1=(d:Int) by omega];exact dK (by omega) (by omega)):p:=h
theorem ZB{p:Prop}(h:p:=by rw[ByteArray.size_append];have e2:(⟨#[61,32]⟩:bA).size=2:=rfl;omega):p:=h
theorem ZC{p:Prop}(h:p:=by rw[beq_eq_false_iff_ne];exact k2):p:=h
theorem ZD{p:Prop}(h:p:=by rw[HR.out]):p:=h
theorem ZE{p:Prop}(h:p:=by rw[AW];exact qW):p:=h
theorem ZF{p:Prop}(h:p:=by unfold fR;rw[hq];rfl):p:=h
theorem ZG{p:Prop}(h:p:=by show WrS B wb (st.put []) v _;rw[iQ];exact HC.out.later qZ.out):p:=h
theorem ZH{p:Prop}(h:p:=by simp[results,Tryz.results44,go_sem,r0,r1,r2,r3,r4,r5,r6,r7,r8]):p:=h
theorem ZI{p:Prop}(h:p:=by simp[results,Tryz.results11,go_sem,r0,r1,r2,r3,r4,r5,r6,r7,r8]):p:=h
theorem ZJ{p:Prop}(h:p:=by have L3:b'=w.heap.size:=L3;have hn:=Nat.le_trans yS hn;omega):p:=h
theorem ZK{p:Prop}(h:p:=by simpa using hy):p:=h
theorem ZL{p:Prop}(h:p:=by rw[aN];exact⟨_,_,rfl,by decide,by decide,aO.nil _ _ _ _,tY⟩):p:=h
theorem ZM{p:Prop}(h:p:=by rw[aN];exact⟨_,_,rfl,by decide,by decide,aO.nil _ _ _ _,D1⟩):p:=h
theorem ZN{p:Prop}(h:p:=by have h1:=hn.2;omega):p:=h
theorem ZO{p:Prop}(h:p:=by have h:=xO;unfold gX at h;split at h;(assumption);(cases h)):p:=h
end Go.Proofs.YtiionicikdnnpaaGreatDoor
namespace Go.Proofs.YtiionicikdnnpaaGreatDoor
open Go.RowKit Go.Maps
structure KeyC (P:Program) (t:TypeId) (κ:Type) where
 lit:κ->Lit
 val:κ->Value
 ok:κ->Prop
 inj:∀a b,lit a=lit b->a=b
 key:∀a,ok a->keyOf P t (val a)=some (lit a)
 keyed:Keyed P t
 isKey:∀a,WideAt.IsKeyLit (lit a)
structure ValC (P:Program) (t:TypeId) (ν:Type) where
 lit:ν->Lit
 val:ν->Value
 ok:ν->Prop
 zero:ν
 zok:ok zero
 rd:∀x,ok x->plainElem (H:=Unit) P t (val x)=some (.lit (lit x),[])
 inv:∀v x ps,plainElem (H:=Unit) P t v=some (.lit (lit x),ps)->v=val x
 zrun:∀w,(zeroValue t).run P w=.ok (val zero) w
theorem bytes_ext{s t:bA}(h:s.data.toList=t.data.toList):s=t:=by
 cases s;cases t;congr;exact Array.toList_inj.1 h
section
variable {P:Program} {t:TypeId}
def strKey(h:P.underlying t=some .string):KeyC P t bA where
 lit s:=.string s.data.toList
 val:=.string
 ok s:=s.size<=maxLen
 inj a b h:=bytes_ext (by simpa using h)
 key a ha:=Go.WideMaps.keyOf_string_mk h ha
 keyed:=string_keyed h
 isKey _:=trivial
def boolVal(h:P.underlying t=some .bool)(hz:∀w,(zeroValue t).run P w=.ok (.bool false) w):ValC P t Bool where
 lit:=.bool
 val:=.bool
 ok _:=True
 zero:=false
 zok:=trivial
 rd x _:=plainElem_bool h x
 inv v x ps hv:=by
  unfold plainElem at hv;rw[h] at hv;cases v<;>simp at hv;rw[hv.1]
 zrun:=hz
end
section
variable {P:Program} {kt et t:TypeId} {κ ν:Type} {K:KeyC P kt κ} {V:ValC P et ν} {w:World} {b n:Nat} {m:κ->Option ν}
def bQ(K:KeyC P kt κ)(V:ValC P et ν)(w:World)(b n:Nat)(m:κ->Option ν):Prop:=
 ∃D:DataW Unit,w.ownsMap P kt (plainElem P et) b n D/\∀x z,D.atKey (K.lit x) z=(match m x with|some v=>.lit (V.lit v)|none=>z)
theorem bQ.made(w:World):bQ K V (w.alloc (.map #[] 0)) w.heap.size 0 (fun _=>none):=
 ⟨.map [],World.ownsMap_made w P kt _,fun _ _=>rfl⟩
theorem bQ.of_block{w':World}(h:bQ K V w b n m)(hb:w'.heap[b]? =w.heap[b]?):bQ K V w' b n m:=by
 obtain⟨D,⟨es,clock,h1,r⟩,h2⟩:=h;exact⟨D,⟨es,clock,hb.trans h1,r⟩,h2⟩
theorem bQ.lt(h:bQ K V w b n m):b<w.heap.size:=by obtain⟨D,h1,-⟩:=h;exact h1.lt
theorem bQ.later{w':World}(h:bQ K V w b n m)(hb:Below w.heap.size w w'):bQ K V w' b n m:=h.of_block (hb.block b h.lt)
theorem bQ.mono{n':Nat}(h:bQ K V w b n m)(hn:n<=n'):bQ K V w b n' m:=by obtain⟨D,h1,h2⟩:=h;exact⟨D,h1.mono hn,h2⟩
theorem bQ.alloc(h:bQ K V w b n m)(o:Obj):bQ K V (w.alloc o) b n m:=h.of_block (Below.heap_alloc _ _ _ h.lt)
theorem bQ.drew(h:bQ K V w b n m):bQ K V w.drew b n m:=h
theorem bQ.setCell(h:bQ K V w b n m){a:Addr}(ha:b≠a.block)(u:Value):bQ K V (w.setCell a u) b n m:=h.of_block (Below.heap_setCell _ _ _ _ ha)
theorem bQ.grown{w':World}{row:Option Nat}(h:bQ K V w b n m)(hg:w.grownBy w' row)(pP:some b≠row):bQ K V w' b n m:=
 h.of_block (hg.block b h.lt pP)
theorem bQ.ext{m':κ->Option ν}(h:bQ K V w b n m)(e:∀x,m x=m' x):bQ K V w b n m':=by
 have:m=m':=funext e;exact this▸h
theorem bQ.look(h:bQ K V w b n m)(ht:P.underlying t=some (.map kt et)){x:κ}(hx:K.ok x):
  (Instr.lookup t (.map (some b)) (K.val x) false).run P w=.ok (V.val ((m x).getD V.zero)) w:=by
 obtain⟨D,h1,h2⟩:=h;obtain⟨v,ps,BP,hv⟩:=h1.lookup K.keyed ht (V.zrun w) (V.rd _ V.zok) (K.key x hx);rw[h2] at hv
 cases hm:m x with
 |none=>rw[hm] at hv;rw[BP,V.inv v _ ps hv];rfl
 |some y=>rw[hm] at hv;rw[BP,V.inv v _ ps hv];rfl
open Classical in
theorem bQ.store(h:bQ K V w b n m)(ht:P.underlying t=some (.map kt et))(hn:n<maxLen){x:κ}(hx:K.ok x){y:ν}(hy:V.ok y):
  ∃w',(Instr.mapUpdate t (.map (some b)) (K.val x) (V.val y)).run P w=.ok () w'/\bQ K V w' b (n+1) (fun z=>if z=x then some y else m z)/\w.grownBy w' (some b):=by
 obtain⟨D,h1,h2⟩:=h;obtain⟨w',BP,h3,hg⟩:=h1.update K.keyed ht hn (K.key x hx) (V.rd y hy);refine⟨w',BP,⟨_,h3,fun z d=>?_⟩,hg⟩;by_cases hz:z=x
 ·subst hz;rw[atKey_put_same h1.isMap (K.isKey z)];simp
 rw[atKey_put_other (fun e=>hz (K.inj _ _ e)),h2];simp[hz]
theorem wpList_look{ops:Array Oper}{rest:List Oper}{o:Oper}{a:Act}{Q:Exit->Act->World->Prop}(hg:o.guard=none){mo xo:Operand}(vT:o.op=Op.lookup t mo xo false)
  (ht:P.underlying t=some (.map kt et)) (h:bQ K V w b n m) (hm:a.eval mo=.map (some b)) {x:κ} (hx:K.ok x) (zI:a.eval xo=K.val x)
  (hK:wpList P ops Q rest (a.put o.dst (V.val ((m x).getD V.zero))) w):wpList P ops Q (o::rest) a w:=by
 refine wpList_plain hg fun K' hK'=>?_;have BP:=h.look ht hx;unfold Oper.wp;simp[execOp,vT,hm,zI,BP,Result.andThen];exact hK' _ _ hK
open Classical in
theorem wpList_put{ops:Array Oper}{rest:List Oper}{o:Oper}{a:Act}{Q:Exit->Act->World->Prop}(hg:o.guard=none){mo xo vo:Operand}(vT:o.op=Op.mapUpdate t mo xo vo)
  (ht:P.underlying t=some (.map kt et)) (h:bQ K V w b n m) (hn:n<maxLen) (hm:a.eval mo=.map (some b)) {x:κ} (hx:K.ok x) (zI:a.eval xo=K.val x) {y:ν} (hy:V.ok y) (hye:a.eval vo=V.val y)
  (hK:∀w',bQ K V w' b (n+1) (fun z=>if z=x then some y else m z)->w.grownBy w' (some b)->wpList P ops Q rest (a.put o.dst undef) w'):wpList P ops Q (o::rest) a w:=by
 refine wpList_plain hg fun K' hK'=>?_;obtain⟨w',BP,h1,h2⟩:=h.store ht hn hx hy;unfold Oper.wp;simp[execOp,vT,hm,zI,hye,BP,Result.andThen];exact hK' _ _ (hK w' h1 h2)
end
end Go.Proofs.YtiionicikdnnpaaGreatDoor
