/- Texts of this seat, joined. -/
import Derived.Test.YtacgopankhpnbaaGreatDoorProg
import Derived.Lib.Hide
import Derived.WalkSpells
import Derived.BigQuiet
import Derived.Shelf.Abstract
set_option linter.unusedVariables false
set_option linter.unusedSimpArgs false
namespace Go.Proofs.YtacgopankhpnbaaGreatDoor
open Go.RowKit
theorem UB{p:Prop}(h:p:=by
 obtain⟨cs,-,hl,hj⟩:=hc 0 x0 rfl
 exact cU (hj 0 (cs[0]'(by omega)) (List.getElem?_eq_getElem _))):p:=h
theorem aD{a b:Bool}(h:a=b):Ending.returned (.bool a)=.returned (.bool b):=by rw[h]
theorem eW{k:IntKind}{a b:Int}(h:a=b):Ending.returned (.int k a)=.returned (.int k b):=by rw[h]
theorem mG{a b:ByteArray}(h:a=b):Ending.returned (.string a)=.returned (.string b):=by rw[h]
theorem take_snoc(s:ByteArray)(k:Nat)(h:k<s.size):s.data.toList.take (k+1)=s.data.toList.take k++[s[k]]:=by
 rw[List.take_succ_eq_append_getElem (by simpa using h)];rfl
theorem bcell{W w1:World}(hb:Below W.heap.size W w1):(∀b o,b<W.heap.size->w1.cell? ⟨b,o,none⟩=W.cell? ⟨b,o,none⟩)/\(∀b o,b<W.heap.size->w1.frozen? ⟨b,o,none⟩=W.frozen? ⟨b,o,none⟩):=
 ⟨fun b o h=>hb.cell (p:=⟨b,o,none⟩) h,fun b o h=>hb.frozen (p:=⟨b,o,none⟩) h⟩
theorem cU{w:World}{b o:Nat}{v:Value}(h:w.cell? ⟨b,o,none⟩=some v):b<w.heap.size:=by
 by_cases hb:b<w.heap.size
 ·exact hb
 ·have:w.heap[b]? =none:=Array.getElem?_eq_none (by omega);simp[World.cell?,this] at h
theorem aC{w w':World}(hb:Below w.heap.size w w'){b o:Nat}{v:Value}(h:w.cell? ⟨b,o,none⟩=some v):w'.cell? ⟨b,o,none⟩=some v:=
 (hb.cell (p:=⟨b,o,none⟩) (cU h)).trans h
theorem aB{a b c:World}(h:Below a.heap.size a b)(k:Below b.heap.size b c):Below a.heap.size a c:=
 h.trans (k.mono h.size)
theorem aN(w:World)(o:Obj):(w.alloc o).heap[w.heap.size]? =some o:=by
 show(w.heap.push o)[w.heap.size]? =some o;simp
theorem aA(w:World)(o:Obj):Below w.heap.size w (w.alloc o):=(Below.refl _ _).alloc (Nat.le_refl _) _
def Row{α:Type}(k:Nat)(enc:World->α->List Value->Prop)(w:World)(v:Value)(l:List α):Prop:=
 ∃a c,v=.slice a l.length c/\l.length<=c/\c<=9223372036854775807/\
  (l≠[]->∃b o,a=some ⟨b,o,none⟩/\∀i x,l[i]? =some x->∃cs,enc w x cs/\cs.length=k/\∀j u,cs[j]? =some u->w.cell? ⟨b,o+i*k+j,none⟩=some u)
theorem Row.later{α:Type}{k:Nat}{enc:World->α->List Value->Prop}{w w':World}{v:Value}{l:List α}(hb:Below w.heap.size w w')
  (he:∀x cs,enc w x cs->enc w' x cs) (h:Row k enc w v l):Row k enc w' v l:=by
 obtain⟨a,c,hv,h1,h2,h3⟩:=h;refine⟨a,c,hv,h1,h2,fun pQ=>?_⟩;obtain⟨b,o,ha,hc⟩:=h3 pQ;refine⟨b,o,ha,fun i x hx=>?_⟩;obtain⟨cs,e,hl,hj⟩:=hc i x hx;exact⟨cs,he x cs e,hl,fun j u hu=>aC hb (hj j u hu)⟩
def encStr1(_:World)(x:ByteArray)(cs:List Value):Prop:=cs=[.string x]/\x.size<=140737488355328
def Strs(w:World)(v:Value)(l:List ByteArray):Prop:=Row 1 encStr1 w v l
theorem Strs.later{w w':World}{v:Value}{l:List ByteArray}(hb:Below w.heap.size w w')(h:Strs w v l):Strs w' v l:=
 Row.later hb (fun _ _ h=>h) h
def encInt1(_:World)(x:Int)(cs:List Value):Prop:=cs=[.int .i64 x]
def gN(w:World)(v:Value)(l:List Int):Prop:=Row 1 encInt1 w v l
theorem gN.later{w w':World}{v:Value}{l:List Int}(hb:Below w.heap.size w w')(h:gN w v l):gN w' v l:=
 Row.later hb (fun _ _ h=>h) h
theorem Row.cases{α:Type}{k:Nat}{enc:World->α->List Value->Prop}{w:World}{v:Value}{l:List α}(h:Row (k+1) enc w v l):
  (l=[]/\∃a c,v=.slice a 0 c)\/(∃b o c,v=.slice (some ⟨b,o,none⟩) l.length c/\0<l.length/\l.length<=c/\c<=9223372036854775807/\b<w.heap.size/\
   ∀i x,l[i]? =some x->∃cs,enc w x cs/\cs.length=k+1/\∀j u,cs[j]? =some u->w.cell? ⟨b,o+i*(k+1)+j,none⟩=some u):=by
 obtain⟨a,c,hv,h1,h2,h3⟩:=h
 cases l with
 |nil=>exact .inl ⟨rfl,a,c,hv⟩
 |cons x0 l=>
  obtain⟨b,o,ha,hc⟩:=h3 (by simp);refine .inr ⟨b,o,c,by rw[hv,ha],by simp,h1,h2,?_,hc⟩;exact UB
theorem Strs.cases{w:World}{v:Value}{l:List ByteArray}(h:Strs w v l):
  (l=[]/\∃a c,v=.slice a 0 c)\/(∃b o c,v=.slice (some ⟨b,o,none⟩) l.length c/\0<l.length/\l.length<=c/\c<=9223372036854775807/\b<w.heap.size/\
   ∀i x,l[i]? =some x->w.cell? ⟨b,o+i,none⟩=some (.string x)/\x.size<=140737488355328):=by
 rcases Row.cases h with h|⟨b,o,c,hv,h0,h1,h2,hb,hc⟩
 ·exact .inl h
 ·refine .inr ⟨b,o,c,hv,h0,h1,h2,hb,fun i x hx=>?_⟩;obtain⟨cs,⟨e,hs⟩,-,hj⟩:=hc i x hx;have:=hj 0 (.string x) (by rw[e];rfl);exact⟨by simpa using this,hs⟩
theorem gN.cases{w:World}{v:Value}{l:List Int}(h:gN w v l):
  (l=[]/\∃a c,v=.slice a 0 c)\/(∃b o c,v=.slice (some ⟨b,o,none⟩) l.length c/\0<l.length/\l.length<=c/\c<=9223372036854775807/\b<w.heap.size/\
   ∀i x,l[i]? =some x->w.cell? ⟨b,o+i,none⟩=some (.int .i64 x)):=by
 rcases Row.cases h with h|⟨b,o,c,hv,h0,h1,h2,hb,hc⟩
 ·exact .inl h
 ·refine .inr ⟨b,o,c,hv,h0,h1,h2,hb,fun i x hx=>?_⟩;obtain⟨cs,e,-,hj⟩:=hc i x hx;have:=hj 0 (.int .i64 x) (by rw[e];rfl);simpa using this
theorem lI{w:World}{v:Value}{l:List ByteArray}(h:Strs w v l){x:ByteArray}(hx:x∈l):x.size<=140737488355328:=by
 rcases h.cases with⟨rfl,-⟩|⟨b,o,c,-,-,-,-,-,hc⟩
 ·cases hx
 ·obtain⟨i,hi⟩:=List.getElem?_of_mem hx;exact(hc i x hi).2
theorem getElem?_of_lt{α:Type}{l:List α}{k:Nat}(h:k<l.length):∃x,l[k]? =some x/\x∈l:=⟨l[k],List.getElem?_eq_getElem h,List.getElem_mem h⟩
theorem zh{p:Prop}(h:p):Hid p:=Lib.hid h
theorem VG{p:Prop}(h:p:=by omega):p:=h
theorem VH{p:Prop}(h:p:=by kernel_rfl):p:=h
theorem VI{p:Prop}(h:p:=by decide):p:=h
theorem VK{p:Prop}(h:p:=by rw[vC.out,<-List.append_assoc,Lib.byteCells_append];exact qW.out):p:=h
theorem VL{p:Prop}(h:p:=by simp):p:=h
theorem VM{p:Prop}(h:p:=by go_simp):p:=h
theorem VN{p:Prop}(h:p:=by rw[tG.out,dG,<-List.append_assoc];exact qV.out):p:=h
theorem VO{p:Prop}(h:p:=by rw[aZ];exact⟨_,_,rfl,by decide,by decide,aK.nil _ _ _ _,(aK.of_block (N:=fun b=>w.heap.size<b/\b≠b5) (css:=[[.int .i64 op,.int .i64 n,.string s,.string m,.slice a1 n1 c1,.slice a2 n2 c2],[.int .i64 opc,.int .i64 nc,.string sc,.string mc,.slice pc qc rc,.slice tc uc vc]]) (heap_alloc_new w5 _) (by exact⟨by omega,by omega⟩) rfl (by simp) (fun i y c hy hc=>by match i,hy,hc with|0,hy,hc=>(cases hy;cases hc;exact aG _ _ _ _ _ _ (bM.later (aA w5 _)) tS.out.enc)|1,hy,hc=>(cases hy;cases hc;exact aG.wide (aG _ _ _ _ _ _ (bM.later (aA w5 _)) R9.out) fun b hb _=>⟨by have hb:w4.heap.size<=b:=hb;omega,by have hb:w4.heap.size<=b:=hb;omega⟩)) rfl (by decide):aK 6 bV (fun b=>w.heap.size<b/\b≠b5) (w5.alloc (.cells #[.int .i64 op,.int .i64 n,.string s,.string m,.slice a1 n1 c1,.slice a2 n2 c2,.int .i64 opc,.int .i64 nc,.string sc,.string mc,.slice pc qc rc,.slice tc uc vc] 177)) (.slice (some ⟨w5.heap.size,0,none⟩) 2 2) [x,xb])⟩):p:=h
theorem VP{p:Prop}(h:p:=by have x0:=aC hW q0;have x1:=aC hW q1;have x2:=aC hW q2;have y0:=aC hW t0;have y1:=aC hW t1;go_simp):p:=h
theorem VQ{p:Prop}(h:p:=by rw[beq_eq_false_iff_ne];omega):p:=h
theorem VR{p:Prop}(h:p:=by unfold maxLen;omega):p:=h
theorem VS{p:Prop}(h:p:=by simp[results,Tryz.results236,go_sem,r0,r1,r2,r3,r4,r5]):p:=h
theorem VT{p:Prop}(h:p:=by go_num):p:=h
theorem VU{p:Prop}(h:p:=by rw[beq_eq_false_iff_ne];intro e;exact qT (bB e)):p:=h
theorem VV{p:Prop}(h:p:=by unfold aS;rw[if_neg k1,if_neg (show ¬isP p.l i dJ=true by rw[qt];simp),if_neg (show ¬isP p.l i cJ=true by rw[qf];simp),if_neg (show ¬isP p.l i iG=true by rw[qg];simp),if_neg (show ¬((aH p.l i).kind=0/\cT (aH p.l i).text≠0) from fun h=>k0 h.1),if_neg (show ¬isP p.l i bY=true by rw[qb];simp),if_neg (show ¬isP p.l i bZ=true by rw[qo];simp)];try rfl):p:=h
theorem VW{p:Prop}(h:p:=by unfold aS;rw[if_neg k1,if_neg (show ¬isP p.l i dJ=true by rw[qt];simp),if_neg (show ¬isP p.l i cJ=true by rw[qf];simp),if_neg (show ¬isP p.l i iG=true by rw[qg];simp),if_neg (show ¬((aH p.l i).kind=0/\cT (aH p.l i).text≠0) from fun h=>h.2 kb),if_neg (show ¬isP p.l i bY=true by rw[qb];simp),if_neg (show ¬isP p.l i bZ=true by rw[qo];simp)];try rfl):p:=h
theorem VX{p:Prop}(h:p:=by simp[Value.oneCell']):p:=h
theorem VY{p:Prop}(h:p:=by rcases e with e|e<;>omega):p:=h
theorem VZ{p:Prop}(h:p:=by simp;omega):p:=h
theorem V0{p:Prop}(h:p:=by rw[beq_eq_false_iff_ne];exact k1):p:=h
theorem V1{p:Prop}(h:p:=by rw[beq_eq_false_iff_ne];intro e;exact rF (bB e)):p:=h
theorem V2{p:Prop}(h:p:=by go_simp<;>omega):p:=h
theorem V3{p:Prop}(h:p:=by obtain⟨V9,hV⟩:=hW;have q5:=hV.off.cell yW r5;have zy0:=hV.off.cell rQ BM;have zy1:=hV.off.cell rQ BL;have zy2:=hV.off.cell rQ AA;have zy3:=hV.off.cell rQ hy3;have zy4:=hV.off.cell rQ hy4;have zy5:=hV.off.cell rQ hy5;go_simp):p:=h
theorem V4{p:Prop}(h:p:=by first|(rw[HR.out];done)|(rw[HR.out];simp)):p:=h
theorem V5{p:Prop}(h:p:=by have:=h.blt;omega):p:=h
theorem V6{p:Prop}(h:p:=by simp[results,Tryz.results158,go_sem]):p:=h
theorem V7{p:Prop}(h:p:=by first|(rw[HM.out];done)|(rw[HM.out];rfl)|(rw[HM.out];simp)):p:=h
theorem V8{p:Prop}(h:p:=by have h1:=hb.1;show w.heap.size<=b;omega):p:=h
theorem WB{p:Prop}(h:p:=by have hb:b=p.pb:=hb;omega):p:=h
theorem WC{p:Prop}(h:p:=by rw[Bool.eq_iff_iff];simp;omega):p:=h
theorem WD{p:Prop}(h:p:=by cases h;kernel_rfl):p:=h
theorem WE{p:Prop}(h:p:=by rw[<-zK];exact aL (Below.refl _ _) _):p:=h
theorem WF{p:Prop}(h:p:=by rfl):p:=h
theorem WG{p:Prop}(h:p:=by rw[HF.out]):p:=h
theorem WH{p:Prop}(h:p:=by rw[aZ];exact⟨_,_,rfl,by decide,by decide,aK.nil _ _ _ _,aK.nil _ _ _ _⟩):p:=h
theorem WI{p:Prop}(h:p:=by simpa using h):p:=h
theorem WJ{p:Prop}(h:p:=by injection e with e1 e2 e3;exact⟨e1,e3⟩):p:=h
theorem WK{p:Prop}(h:p:=by rw[IntKind.wrap_i64];omega):p:=h
theorem WL{p:Prop}(h:p:=by obtain⟨y0,y1,y2,y3,y4⟩:=(bx5 (aF hW rT.out)).1;go_simp<;>omega):p:=h
theorem WM{p:Prop}(h:p:=by rw[HR.out];rfl):p:=h
theorem WN{p:Prop}(h:p:=by simpa using heap_alloc_new ((w7.setCell ⟨w6.heap.size,1,none⟩ (.int .i64 k)).setCell ⟨w6.heap.size,2,none⟩ (.slice sa sn sc)) (.cells #[.string a,.int .i64 k,.slice sa sn sc] 184)):p:=h
theorem WO{p:Prop}(h:p:=by have hb:b=p.pb:=hb;have:=HW.out.blt;omega):p:=h
theorem WQ{p:Prop}(h:p:=by have B8:(0:Int)<=(q:Int)-1:=(by omega);have GO:(q:Int)-1<(fs.length:Int):=(by omega);have NZ:((q:Int)-1).toNat=q-1:=(by omega);have hi4:¬(q:Int)<1:=(by omega);go_simp):p:=h
theorem WR{p:Prop}(h:p:=by obtain⟨V9,hV⟩:=hW;have q5:=hV.off.cell yW r5;go_simp):p:=h
theorem WS{p:Prop}(h:p:=by have:=HB.out.1;omega):p:=h
theorem WT{p:Prop}(h:p:=by have h1:=hn.1;rcases hb with(e|e|e|e)|e<;>omega):p:=h
theorem WU{p:Prop}(h:p:=by rw[HM.out,fns_bad HX.out (.inr (.inr (by rw[HR.out];rfl))) F4.out];simp):p:=h
theorem WV{p:Prop}(h:p:=by simp<;>omega):p:=h
theorem WW{p:Prop}(h:p:=by have hb:w4.heap.size<=b:=hb;omega):p:=h
theorem WX{p:Prop}(h:p:=by rw[beq_eq_false_iff_ne];exact k0):p:=h
theorem WY{p:Prop}(h:p:=by rw[bne_eq_false_iff_eq];exact hA):p:=h
theorem WZ{p:Prop}(h:p:=by rw[aZ];exact⟨_,_,rfl,wQ,by decide,aK.nil _ _ _ _,aK.nil _ _ _ _⟩):p:=h
theorem W1{p:Prop}(h:p:=by simp[gX] at sK;omega):p:=h
theorem W4{p:Prop}(h:p:=by rw[beq_iff_eq];exact k0):p:=h
theorem W5{p:Prop}(h:p:=by have x0:=aC hW q0;have x1:=aC hW q1;have x2:=aC hW q2;have y0:=aC hW t0;have y1:=aC hW t1;have z0:=aC hW hp0;go_simp):p:=h
theorem W6{p:Prop}(h:p:=by have h:=D9.out;rw[R1.out] at h;exact h):p:=h
theorem W7{p:Prop}(h:p:=by have:=HS.out.blt;intro e;have e:w.heap.size=p.pb:=e;omega):p:=h
theorem W8{p:Prop}(h:p:=by rw[tC.out,sT];simp[EX]):p:=h
theorem W9{p:Prop}(h:p:=by simp at h):p:=h
theorem XA{p:Prop}(h:p:=by simp[results,Tryz.results218,go_sem,r0,r1,r2,r3,r4,r5]):p:=h
theorem XB{p:Prop}(h:p:=by simp[results,Tryz.results29,go_sem]):p:=h
theorem XC{p:Prop}(h:p:=by rcases hb with e|e<;>omega):p:=h
theorem XD{p:Prop}(h:p:=by rw[pZ.out,wY,List.drop_length];rfl):p:=h
theorem XE{p:Prop}(h:p:=by have hn:B4<=b:=hn;rcases hb with(e|e|e|e)|e<;>omega):p:=h
theorem XF{p:Prop}(h:p:=by have hb:w6.heap.size<=b:=hb;omega):p:=h
theorem XG{p:Prop}(h:p:=by rw[beq_eq_false_iff_ne];exact h1):p:=h
theorem XH{p:Prop}(h:p:=by have h:=hj 0 _ rfl;simpa using h):p:=h
theorem XI{p:Prop}(h:p:=by rw[wB];rfl):p:=h
theorem XJ{p:Prop}(h:p:=by have:=HB.out;have:=J1.out;omega):p:=h
theorem XK{p:Prop}(h:p:=by rw[HI.out.len];exact yX):p:=h
theorem XL{p:Prop}(h:p:=by have:=(xM.out.own b2 e).2;omega):p:=h
theorem XM{p:Prop}(h:p:=by rw[wB];simp):p:=h
theorem XN{p:Prop}(h:p:=by simpa[bE] using pP):p:=h
theorem XO{p:Prop}(h:p:=by have e:w6.heap.size=p.pb:=e;have:=tK.blt;omega):p:=h
theorem XP{p:Prop}(h:p:=by have:=hg.size;simpa using this):p:=h
theorem XQ{p:Prop}(h:p:=by simpa[Value.ownBlock] using hb):p:=h
theorem XR{p:Prop}(h:p:=by (cases h)):p:=h
theorem XS{p:Prop}(h:p:=by simpa[Value.ownBlock] using e):p:=h
theorem XT{p:Prop}(h:p:=by simpa using qA):p:=h
theorem XU{p:Prop}(h:p:=by have hwq:IntKind.i64.wrap ((q:Int)-1)=(q:Int)-1:=(by rw[IntKind.wrap_i64];omega);go_simp):p:=h
theorem XV{p:Prop}(h:p:=by rw[<-h.map];exact List.mem_map.2 ⟨y,hy,rfl⟩):p:=h
theorem XW{p:Prop}(h:p:=by have hb:B4<=b:=hb;show w.heap.size<=b;omega):p:=h
theorem XZ{p:Prop}(h:p:=by simp[Value.ownBlock]):p:=h
theorem X0{p:Prop}(h:p:=by rw[hq];simp):p:=h
theorem X1{p:Prop}(h:p:=by have KF:IntKind.i64.wrap (d:Int)=(d:Int):=(by rw[IntKind.wrap_i64];omega);go_simp):p:=h
theorem X2{p:Prop}(h:p:=by rw[JF.out];simp):p:=h
theorem X3{p:Prop}(h:p:=by obtain⟨V9,hV⟩:=hW;have q5:=hV.off.cell FL r5;have q2:=hV.off.cell FL r2;go_simp):p:=h
theorem X4{p:Prop}(h:p:=by have hb:w20.heap.size<=b:=hb;have:=AT.out.lt;exact⟨by omega,by omega,by omega⟩):p:=h
theorem X5{p:Prop}(h:p:=by have hb:b=p.pb:=hb;have:=hW.blt;omega):p:=h
theorem X6{p:Prop}(h:p:=by obtain⟨y0,y1,y2,y3⟩:=bx4 hW.1;go_simp):p:=h
theorem X7{p:Prop}(h:p:=by exact⟨by omega,by omega⟩):p:=h
theorem X8{p:Prop}(h:p:=by simp[results,Tryz.results140,go_sem,r0,r1,r2,r3,r4,r5,r6,r7,r8,r9,r10,r11]):p:=h
theorem X9{p:Prop}(h:p:=by simpa using he):p:=h
theorem YA{p:Prop}(h:p:=by simp[results,Tryz.results107,go_sem]):p:=h
theorem YB{p:Prop}(h:p:=by cases hh:aR files with|true=>rfl|false=>exact absurd (.inr (.inl hh)) rH):p:=h
theorem YD{p:Prop}(h:p:=by cases h):p:=h
theorem YE{p:Prop}(h:p:=by rw[bne_iff_ne];exact he):p:=h
theorem YF{p:Prop}(h:p:=by simpa using ‹(!isP p.l uI bJ)=true›):p:=h
theorem YG{p:Prop}(h:p:=by rw[gE];exact⟨_,rfl,aK.nil _ _ _ _⟩):p:=h
theorem YH{p:Prop}(h:p:=by simpa using ‹(!isP p.l j bJ)=true›):p:=h
theorem YI{p:Prop}(h:p:=by have hb:B<=b:=hb;omega):p:=h
theorem YJ{p:Prop}(h:p:=by have pR:b=b5:=pR;omega):p:=h
theorem YK{p:Prop}(h:p:=by simpa using this):p:=h
theorem YL{p:Prop}(h:p:=by obtain⟨⟨z0,z1,z2,z3,z4,z5,z6,z7,z8,z9,z10,z11⟩,-⟩:=kQ hW.1;go_simp):p:=h
theorem YN{p:Prop}(h:p:=by rw[beq_eq_false_iff_ne];exact k2):p:=h
theorem YO{p:Prop}(h:p:=by have h:=yM 0 _ rfl;simpa using h):p:=h
theorem YP{p:Prop}(h:p:=by rw[beq_eq_false_iff_ne];exact ha):p:=h
theorem YQ{p:Prop}(h:p:=by simp[Value.ownBlock] at hk;omega):p:=h
theorem YR{p:Prop}(h:p:=by have h:=zP 0 _ rfl;simpa using h):p:=h
theorem YS{p:Prop}(h:p:=by have h:=zP 1 _ rfl;simpa using h):p:=h
theorem YT{p:Prop}(h:p:=by have h:=zP 2 _ rfl;simpa using h):p:=h
theorem YU{p:Prop}(h:p:=by have h:=zP 3 _ rfl;simpa using h):p:=h
theorem YV{p:Prop}(h:p:=by have h:=zP 4 _ rfl;simpa using h):p:=h
theorem YW{p:Prop}(h:p:=by have h:=zP 5 _ rfl;simpa using h):p:=h
theorem YX{p:Prop}(h:p:=by have h:=zO 0 _ rfl;simpa using h):p:=h
theorem YY{p:Prop}(h:p:=by have h:=zO 1 _ rfl;simpa using h):p:=h
theorem YZ{p:Prop}(h:p:=by have h:=zO 2 _ rfl;simpa using h):p:=h
theorem Y0{p:Prop}(h:p:=by have h:=zO 3 _ rfl;simpa using h):p:=h
theorem Y1{p:Prop}(h:p:=by have h:=zO 4 _ rfl;simpa using h):p:=h
theorem Y2{p:Prop}(h:p:=by have h:=zO 5 _ rfl;simpa using h):p:=h
theorem Y3{p:Prop}(h:p:=by rw[zZ];exact qA):p:=h
theorem Y4{p:Prop}(h:p:=by simp[results,Tryz.results110,go_sem,r0,r1,r2,r3,r4,r5,r6,r7,r8]):p:=h
theorem Y5{p:Prop}(h:p:=by obtain⟨_,_,_,h1,h2,-⟩:=hr;omega):p:=h
theorem Y6{p:Prop}(h:p:=by unfold fP;rw[hq];rfl):p:=h
theorem Y7{p:Prop}(h:p:=by simp[results,Tryz.results84,go_sem,r0,r1,r2,r3,r4,r5,r6,r7,r8]):p:=h
theorem Y8{p:Prop}(h:p:=by cases hh:aM s with|true=>rfl|false=>exact absurd (.inl hh) rH):p:=h
theorem Y9{p:Prop}(h:p:=by simpa using qK):p:=h
theorem ZA{p:Prop}(h:p:=by simpa using hy):p:=h
theorem ZB{p:Prop}(h:p:=by rw[aZ];exact⟨_,_,rfl,by decide,by decide,aK.nil _ _ _ _,yG⟩):p:=h
theorem ZC{p:Prop}(h:p:=by rw[aZ];exact⟨_,_,rfl,by decide,by decide,aK.nil _ _ _ _,D5⟩):p:=h
theorem ZD{p:Prop}(h:p:=by have h1:=hn.2;omega):p:=h
theorem ZE{p:Prop}(h:p:=by have h:=wO;unfold gO at h;split at h;(assumption);(cases h)):p:=h
theorem ZF{p:Prop}(h:p:=by have q1:=hW;go_simp):p:=h
end Go.Proofs.YtacgopankhpnbaaGreatDoor
namespace Go.Proofs.YtacgopankhpnbaaGreatDoor
open Go.RowKit Go.Maps
structure KeyC (P:Program) (t:TypeId) (κ:Type) where
 lit:κ->Lit
 val:κ->Value
 ok:κ->Prop
 inj:∀a b,lit a=lit b->a=b
 key:∀a,ok a->keyOf P t (val a)=some (lit a)
 keyed:Keyed P t
 isKey:∀a,WideAt.IsKeyLit (lit a)
structure ValC (P:Program) (t:TypeId) (ν:Type) where
 lit:ν->Lit
 val:ν->Value
 ok:ν->Prop
 zero:ν
 zok:ok zero
 rd:∀x,ok x->plainElem (H:=Unit) P t (val x)=some (.lit (lit x),[])
 inv:∀v x ps,plainElem (H:=Unit) P t v=some (.lit (lit x),ps)->v=val x
 zrun:∀w,(zeroValue t).run P w=.ok (val zero) w
theorem iU{s t:ByteArray}(h:s.data.toList=t.data.toList):s=t:=by
 cases s;cases t;congr;exact Array.toList_inj.1 h
section
variable {P:Program} {t:TypeId}
def strKey(h:P.underlying t=some .string):KeyC P t ByteArray where
 lit s:=.string s.data.toList
 val:=.string
 ok s:=s.size<=maxLen
 inj a b h:=iU (by simpa using h)
 key a ha:=Go.WideMaps.keyOf_string_mk h ha
 keyed:=string_keyed h
 isKey _:=trivial
def intKey(h:P.underlying t=some (.int .i64)):KeyC P t Int where
 lit:=.int .i64
 val:=.int .i64
 ok n:=(Lit.int .i64 n).wf=true
 inj a b h:=by simpa using h
 key a ha:=keyOf_int_mk h ha
 keyed:=int_keyed h
 isKey _:=trivial
def boolVal(h:P.underlying t=some .bool)(hz:∀w,(zeroValue t).run P w=.ok (.bool false) w):ValC P t Bool where
 lit:=.bool
 val:=.bool
 ok _:=True
 zero:=false
 zok:=trivial
 rd x _:=plainElem_bool h x
 inv v x ps hv:=by
  unfold plainElem at hv;rw[h] at hv;cases v<;>simp at hv;rw[hv.1]
 zrun:=hz
def intVal(h:P.underlying t=some (.int .i64))(hz:∀w,(zeroValue t).run P w=.ok (.int .i64 0) w):ValC P t Int where
 lit:=.int .i64
 val:=.int .i64
 ok n:=(Lit.int .i64 n).wf=true
 zero:=0
 zok:=by decide
 rd x hx:=plainElem_int h hx
 inv v x ps hv:=by
  obtain⟨a,rfl,e,-⟩:=plainElem_int_inv h hv;simp at e;rw[e.1]
 zrun:=hz
end
section
variable {P:Program} {kt et t:TypeId} {κ ν:Type} {K:KeyC P kt κ} {V:ValC P et ν} {w:World} {b n:Nat} {m:κ->Option ν}
def aW(K:KeyC P kt κ)(V:ValC P et ν)(w:World)(b n:Nat)(m:κ->Option ν):Prop:=
 ∃D:DataW Unit,w.ownsMap P kt (plainElem P et) b n D/\∀x z,D.atKey (K.lit x) z=(match m x with|some v=>.lit (V.lit v)|none=>z)
theorem aW.made(w:World):aW K V (w.alloc (.map #[] 0)) w.heap.size 0 (fun _=>none):=
 ⟨.map [],World.ownsMap_made w P kt _,fun _ _=>rfl⟩
theorem aW.of_block{w':World}(h:aW K V w b n m)(hb:w'.heap[b]? =w.heap[b]?):aW K V w' b n m:=by
 obtain⟨D,⟨es,clock,h1,r⟩,h2⟩:=h;exact⟨D,⟨es,clock,hb.trans h1,r⟩,h2⟩
theorem aW.lt(h:aW K V w b n m):b<w.heap.size:=by obtain⟨D,h1,-⟩:=h;exact h1.lt
theorem aW.later{w':World}(h:aW K V w b n m)(hb:Below w.heap.size w w'):aW K V w' b n m:=h.of_block (hb.block b h.lt)
theorem aW.alloc(h:aW K V w b n m)(o:Obj):aW K V (w.alloc o) b n m:=h.of_block (Below.heap_alloc _ _ _ h.lt)
theorem aW.setCell(h:aW K V w b n m){a:Addr}(ha:b≠a.block)(u:Value):aW K V (w.setCell a u) b n m:=h.of_block (Below.heap_setCell _ _ _ _ ha)
theorem aW.ext{m':κ->Option ν}(h:aW K V w b n m)(e:∀x,m x=m' x):aW K V w b n m':=by
 have:m=m':=funext e;exact this▸h
theorem aW.look(h:aW K V w b n m)(ht:P.underlying t=some (.map kt et)){x:κ}(hx:K.ok x):
  (Instr.lookup t (.map (some b)) (K.val x) false).run P w=.ok (V.val ((m x).getD V.zero)) w:=by
 obtain⟨D,h1,h2⟩:=h;obtain⟨v,ps,sB,hv⟩:=h1.lookup K.keyed ht (V.zrun w) (V.rd _ V.zok) (K.key x hx);rw[h2] at hv
 cases hm:m x with
 |none=>rw[hm] at hv;rw[sB,V.inv v _ ps hv];rfl
 |some y=>rw[hm] at hv;rw[sB,V.inv v _ ps hv];rfl
theorem aW.look2(h:aW K V w b n m)(ht:P.underlying t=some (.map kt et)){x:κ}(hx:K.ok x):
  (Instr.lookup t (.map (some b)) (K.val x) true).run P w=.ok (.tuple #[V.val ((m x).getD V.zero),.bool (m x).isSome]) w:=by
 obtain⟨D,h1,h2⟩:=h;obtain⟨v,ps,sB,hv⟩:=h1.look_ok K.keyed ht (V.zrun w) (V.rd _ V.zok) (K.key x hx);rw[h2] at hv
 cases hm:m x with
 |none=>
  rw[hm] at hv;have:Maps.has D (K.lit x)=false:=Maps.has_false_of_atKey fun z=>by rw[h2,hm]
  rw[sB,V.inv v _ ps hv,this];rfl
 |some y=>
  rw[hm] at hv;have:Maps.has D (K.lit x)=true:=Maps.has_true_of_atKey (y:=.lit (V.lit y)) fun z=>by rw[h2,hm]
  rw[sB,V.inv v _ ps hv,this];rfl
open Classical in
theorem aW.store(h:aW K V w b n m)(ht:P.underlying t=some (.map kt et))(hn:n<maxLen){x:κ}(hx:K.ok x){y:ν}(hy:V.ok y):
  ∃w',(Instr.mapUpdate t (.map (some b)) (K.val x) (V.val y)).run P w=.ok () w'/\aW K V w' b (n+1) (fun z=>if z=x then some y else m z)/\w.grownBy w' (some b):=by
 obtain⟨D,h1,h2⟩:=h;obtain⟨w',sB,h3,hg⟩:=h1.update K.keyed ht hn (K.key x hx) (V.rd y hy);refine⟨w',sB,⟨_,h3,fun z d=>?_⟩,hg⟩;by_cases hz:z=x
 ·subst hz;rw[atKey_put_same h1.isMap (K.isKey z)];simp
 ·rw[atKey_put_other (fun e=>hz (K.inj _ _ e)),h2];simp[hz]
theorem wpList_look{ops:Array Oper}{rest:List Oper}{o:Oper}{a:Act}{Q:Exit->Act->World->Prop}(hg:o.guard=none){mo xo:Operand}(sJ:o.op=Op.lookup t mo xo false)
  (ht:P.underlying t=some (.map kt et)) (h:aW K V w b n m) (hm:a.eval mo=.map (some b)) {x:κ} (hx:K.ok x) (BO:a.eval xo=K.val x)
  (hK:wpList P ops Q rest (a.put o.dst (V.val ((m x).getD V.zero))) w):wpList P ops Q (o::rest) a w:=by
 refine wpList_plain hg fun K' hK'=>?_;have sB:=h.look ht hx;unfold Oper.wp;simp[execOp,sJ,hm,BO,sB,Result.andThen];exact hK' _ _ hK
open Classical in
theorem wpList_put{ops:Array Oper}{rest:List Oper}{o:Oper}{a:Act}{Q:Exit->Act->World->Prop}(hg:o.guard=none){mo xo vo:Operand}(sJ:o.op=Op.mapUpdate t mo xo vo)
  (ht:P.underlying t=some (.map kt et)) (h:aW K V w b n m) (hn:n<maxLen) (hm:a.eval mo=.map (some b)) {x:κ} (hx:K.ok x) (BO:a.eval xo=K.val x) {y:ν} (hy:V.ok y) (hye:a.eval vo=V.val y)
  (hK:∀w',aW K V w' b (n+1) (fun z=>if z=x then some y else m z)->w.grownBy w' (some b)->wpList P ops Q rest (a.put o.dst undef) w'):wpList P ops Q (o::rest) a w:=by
 refine wpList_plain hg fun K' hK'=>?_;obtain⟨w',sB,h1,h2⟩:=h.store ht hn hx hy;unfold Oper.wp;simp[execOp,sJ,hm,BO,hye,sB,Result.andThen];exact hK' _ _ (hK w' h1 h2)
end
end Go.Proofs.YtacgopankhpnbaaGreatDoor
