/- Texts of this seat, joined. -/
import Derived.Test.YtacgopankhpnbaaGreatDoorProg
import Derived.Lib.Hide
import Derived.WalkSpells
import Derived.BigQuiet
import Derived.Shelf.Abstract
namespace Go.Proofs.YtacgopankhpnbaaGreatDoor
open Go.RowKit
theorem uC{p:Prop}(h:p:=by
 obtain⟨cs,-,hl,hj⟩:=hc 0 x0 rfl
 exact dC (hj 0 (cs[0]'(by omega)) (List.getElem?_eq_getElem _))):p:=h
theorem aE{a b:Bool}(h:a=b):Ending.returned (.bool a)=.returned (.bool b):=by rw[h]
theorem fQ{k:IntKind}{a b:Int}(h:a=b):Ending.returned (.int k a)=.returned (.int k b):=by rw[h]
theorem eQ{a b:ByteArray}(h:a=b):Ending.returned (.string a)=.returned (.string b):=by rw[h]
theorem take_snoc(s:ByteArray)(k:Nat)(h:k<s.size):s.data.toList.take (k+1)=s.data.toList.take k++[s[k]]:=by
 rw[List.take_succ_eq_append_getElem (by simpa using h)];rfl
theorem bcell{W w1:World}(hb:Below W.heap.size W w1):(∀b o,b<W.heap.size->w1.cell? ⟨b,o,none⟩=W.cell? ⟨b,o,none⟩)/\(∀b o,b<W.heap.size->w1.frozen? ⟨b,o,none⟩=W.frozen? ⟨b,o,none⟩):=
 ⟨fun b o h=>hb.cell (p:=⟨b,o,none⟩) h,fun b o h=>hb.frozen (p:=⟨b,o,none⟩) h⟩
theorem dC{w:World}{b o:Nat}{v:Value}(h:w.cell? ⟨b,o,none⟩=some v):b<w.heap.size:=by
 by_cases hb:b<w.heap.size
 ·exact hb
 ·have:w.heap[b]? =none:=Array.getElem?_eq_none (by omega);simp[World.cell?,this] at h
theorem aC{w w':World}(hb:Below w.heap.size w w'){b o:Nat}{v:Value}(h:w.cell? ⟨b,o,none⟩=some v):w'.cell? ⟨b,o,none⟩=some v:=
 (hb.cell (p:=⟨b,o,none⟩) (dC h)).trans h
theorem aB{a b c:World}(h:Below a.heap.size a b)(k:Below b.heap.size b c):Below a.heap.size a c:=
 h.trans (k.mono h.size)
theorem aN(w:World)(o:Obj):(w.alloc o).heap[w.heap.size]? =some o:=by
 show(w.heap.push o)[w.heap.size]? =some o;simp
theorem aA(w:World)(o:Obj):Below w.heap.size w (w.alloc o):=(Below.refl _ _).alloc (Nat.le_refl _) _
def Row{α:Type}(k:Nat)(enc:World->α->List Value->Prop)(w:World)(v:Value)(l:List α):Prop:=
 ∃a c,v=.slice a l.length c/\l.length<=c/\c<=9223372036854775807/\
  (l≠[]->∃b o,a=some ⟨b,o,none⟩/\∀i x,l[i]? =some x->∃cs,enc w x cs/\cs.length=k/\∀j u,cs[j]? =some u->w.cell? ⟨b,o+i*k+j,none⟩=some u)
theorem Row.later{α:Type}{k:Nat}{enc:World->α->List Value->Prop}{w w':World}{v:Value}{l:List α}(hb:Below w.heap.size w w')
  (he:∀x cs,enc w x cs->enc w' x cs) (h:Row k enc w v l):Row k enc w' v l:=by
 obtain⟨a,c,hv,h1,h2,h3⟩:=h;refine⟨a,c,hv,h1,h2,fun hne=>?_⟩;obtain⟨b,o,ha,hc⟩:=h3 hne;refine⟨b,o,ha,fun i x hx=>?_⟩;obtain⟨cs,e,hl,hj⟩:=hc i x hx;exact⟨cs,he x cs e,hl,fun j u hu=>aC hb (hj j u hu)⟩
def encStr1(_:World)(x:ByteArray)(cs:List Value):Prop:=cs=[.string x]/\x.size<=140737488355328
def Strs(w:World)(v:Value)(l:List ByteArray):Prop:=Row 1 encStr1 w v l
theorem Strs.later{w w':World}{v:Value}{l:List ByteArray}(hb:Below w.heap.size w w')(h:Strs w v l):Strs w' v l:=
 Row.later hb (fun _ _ h=>h) h
def encInt1(_:World)(x:Int)(cs:List Value):Prop:=cs=[.int .i64 x]
def gZ(w:World)(v:Value)(l:List Int):Prop:=Row 1 encInt1 w v l
theorem gZ.later{w w':World}{v:Value}{l:List Int}(hb:Below w.heap.size w w')(h:gZ w v l):gZ w' v l:=
 Row.later hb (fun _ _ h=>h) h
theorem Row.cases{α:Type}{k:Nat}{enc:World->α->List Value->Prop}{w:World}{v:Value}{l:List α}(h:Row (k+1) enc w v l):
  (l=[]/\∃a c,v=.slice a 0 c)\/(∃b o c,v=.slice (some ⟨b,o,none⟩) l.length c/\0<l.length/\l.length<=c/\c<=9223372036854775807/\b<w.heap.size/\
   ∀i x,l[i]? =some x->∃cs,enc w x cs/\cs.length=k+1/\∀j u,cs[j]? =some u->w.cell? ⟨b,o+i*(k+1)+j,none⟩=some u):=by
 obtain⟨a,c,hv,h1,h2,h3⟩:=h
 cases l with
 |nil=>exact .inl ⟨rfl,a,c,hv⟩
 |cons x0 l=>
  obtain⟨b,o,ha,hc⟩:=h3 (by simp);refine .inr ⟨b,o,c,by rw[hv,ha],by simp,h1,h2,?_,hc⟩;exact uC
theorem Strs.cases{w:World}{v:Value}{l:List ByteArray}(h:Strs w v l):
  (l=[]/\∃a c,v=.slice a 0 c)\/(∃b o c,v=.slice (some ⟨b,o,none⟩) l.length c/\0<l.length/\l.length<=c/\c<=9223372036854775807/\b<w.heap.size/\
   ∀i x,l[i]? =some x->w.cell? ⟨b,o+i,none⟩=some (.string x)/\x.size<=140737488355328):=by
 rcases Row.cases h with h|⟨b,o,c,hv,h0,h1,h2,hb,hc⟩
 ·exact .inl h
 ·refine .inr ⟨b,o,c,hv,h0,h1,h2,hb,fun i x hx=>?_⟩;obtain⟨cs,⟨e,hs⟩,-,hj⟩:=hc i x hx;have:=hj 0 (.string x) (by rw[e];rfl);exact⟨by simpa using this,hs⟩
theorem gZ.cases{w:World}{v:Value}{l:List Int}(h:gZ w v l):
  (l=[]/\∃a c,v=.slice a 0 c)\/(∃b o c,v=.slice (some ⟨b,o,none⟩) l.length c/\0<l.length/\l.length<=c/\c<=9223372036854775807/\b<w.heap.size/\
   ∀i x,l[i]? =some x->w.cell? ⟨b,o+i,none⟩=some (.int .i64 x)):=by
 rcases Row.cases h with h|⟨b,o,c,hv,h0,h1,h2,hb,hc⟩
 ·exact .inl h
 ·refine .inr ⟨b,o,c,hv,h0,h1,h2,hb,fun i x hx=>?_⟩;obtain⟨cs,e,-,hj⟩:=hc i x hx;have:=hj 0 (.int .i64 x) (by rw[e];rfl);simpa using this
theorem mP{w:World}{v:Value}{l:List ByteArray}(h:Strs w v l){x:ByteArray}(hx:x∈l):x.size<=140737488355328:=by
 rcases h.cases with⟨rfl,-⟩|⟨b,o,c,-,-,-,-,-,hc⟩
 ·cases hx
 ·obtain⟨i,hi⟩:=List.getElem?_of_mem hx;exact(hc i x hi).2
theorem getElem?_of_lt{α:Type}{l:List α}{k:Nat}(h:k<l.length):∃x,l[k]? =some x/\x∈l:=⟨l[k],List.getElem?_eq_getElem h,List.getElem_mem h⟩
theorem zh{p:Prop}(h:p):Hid p:=Lib.hid h
theorem vT{p:Prop}(h:p:=by omega):p:=h
theorem vU{p:Prop}(h:p:=by kernel_rfl):p:=h
theorem vV{p:Prop}(h:p:=by decide):p:=h
theorem vW{p:Prop}(h:p:=by go_simp):p:=h
theorem vY{p:Prop}(h:p:=by rw[HT9.out,<-List.append_assoc,Lib.byteCells_append];exact HBd11.out):p:=h
theorem vZ{p:Prop}(h:p:=by simp):p:=h
theorem wA{p:Prop}(h:p:=by rw[beq_eq_false_iff_ne];intro e;exact hm0 (aQ e)):p:=h
theorem wB{p:Prop}(h:p:=by rw[HTk.out,dT,<-List.append_assoc];exact HBz.out):p:=h
theorem wC{p:Prop}(h:p:=by rw[beq_eq_false_iff_ne];omega):p:=h
theorem wD{p:Prop}(h:p:=by rw[beq_eq_false_iff_ne];intro e;exact hs0 (aQ e)):p:=h
theorem wF{p:Prop}(h:p:=by rw[bF];exact⟨_,_,rfl,by decide,by decide,aK.nil _ _ _ _,(aK.of_block (N:=fun b=>w.heap.size<b/\b≠b5) (css:=[[.int .i64 op,.int .i64 n,.string s,.string m,.slice a1 n1 c1,.slice a2 n2 c2],[.int .i64 opc,.int .i64 nc,.string sc,.string mc,.slice pc qc rc,.slice tc uc vc]]) (heap_alloc_new w5 _) (by exact⟨by omega,by omega⟩) rfl (by simp) (fun i y c hy hc=>by match i,hy,hc with|0,hy,hc=>(cases hy;cases hc;exact aG _ _ _ _ _ _ (bX.later (aA w5 _)) HL5.out.enc)|1,hy,hc=>(cases hy;cases hc;exact aG.wide (aG _ _ _ _ _ _ (bX.later (aA w5 _)) HEB.out) fun b hb _=>⟨by have hb:w4.heap.size<=b:=hb;omega,by have hb:w4.heap.size<=b:=hb;omega⟩)) rfl (by decide):aK 6 cE (fun b=>w.heap.size<b/\b≠b5) (w5.alloc (.cells #[.int .i64 op,.int .i64 n,.string s,.string m,.slice a1 n1 c1,.slice a2 n2 c2,.int .i64 opc,.int .i64 nc,.string sc,.string mc,.slice pc qc rc,.slice tc uc vc] 177)) (.slice (some ⟨w5.heap.size,0,none⟩) 2 2) [x,xb])⟩):p:=h
theorem wG{p:Prop}(h:p:=by have x0:=aC hW q0;have x1:=aC hW q1;have x2:=aC hW q2;have y0:=aC hW t0;have y1:=aC hW t1;go_simp):p:=h
theorem wH{p:Prop}(h:p:=by go_num):p:=h
theorem wI{p:Prop}(h:p:=by first|(rw[HR.out];done)|(rw[HR.out];simp)):p:=h
theorem wJ{p:Prop}(h:p:=by simp[results,Tryz.results236,go_sem,r0,r1,r2,r3,r4,r5]):p:=h
theorem wK{p:Prop}(h:p:=by unfold maxLen;omega):p:=h
theorem wL{p:Prop}(h:p:=by unfold aY;rw[if_neg k1,if_neg (show ¬isP p.l i dW=true by rw[qt];simp),if_neg (show ¬isP p.l i cY=true by rw[qf];simp),if_neg (show ¬isP p.l i iZ=true by rw[qg];simp),if_neg (show ¬((aH p.l i).kind=0/\dH (aH p.l i).text≠0) from fun h=>k0 h.1),if_neg (show ¬isP p.l i cJ=true by rw[qb];simp),if_neg (show ¬isP p.l i cO=true by rw[qo];simp)];try rfl):p:=h
theorem wM{p:Prop}(h:p:=by unfold aY;rw[if_neg k1,if_neg (show ¬isP p.l i dW=true by rw[qt];simp),if_neg (show ¬isP p.l i cY=true by rw[qf];simp),if_neg (show ¬isP p.l i iZ=true by rw[qg];simp),if_neg (show ¬((aH p.l i).kind=0/\dH (aH p.l i).text≠0) from fun h=>h.2 kb),if_neg (show ¬isP p.l i cJ=true by rw[qb];simp),if_neg (show ¬isP p.l i cO=true by rw[qo];simp)];try rfl):p:=h
theorem wN{p:Prop}(h:p:=by simp[Value.oneCell']):p:=h
theorem wO{p:Prop}(h:p:=by simp[results,Tryz.results224,go_sem]):p:=h
theorem wP{p:Prop}(h:p:=by rcases e with e|e<;>omega):p:=h
theorem wQ{p:Prop}(h:p:=by simp;omega):p:=h
theorem wR{p:Prop}(h:p:=by rw[beq_eq_false_iff_ne];exact k1):p:=h
theorem wS{p:Prop}(h:p:=by obtain⟨V9,hV⟩:=hW;have q5:=hV.off.cell hni2 r5;have zy0:=hV.off.cell hnib hy0;have zy1:=hV.off.cell hnib hy1;have zy2:=hV.off.cell hnib hy2;have zy3:=hV.off.cell hnib hy3;have zy4:=hV.off.cell hnib hy4;have zy5:=hV.off.cell hnib hy5;go_simp):p:=h
theorem wT{p:Prop}(h:p:=by go_simp<;>omega):p:=h
theorem wU{p:Prop}(h:p:=by have:=h.blt;omega):p:=h
theorem wV{p:Prop}(h:p:=by simp[app_data,mk_data,bs_data,cV,eV,mC]):p:=h
theorem wW{p:Prop}(h:p:=by unfold Func.isWrapper;first|(rw[if_pos (by decide+kernel)];kernel_rfl)|(rw[if_neg (by decide+kernel)];exact⟨rfl,rfl⟩)):p:=h
theorem wX{p:Prop}(h:p:=by simp[app_data,mk_data,bs_data,cV,eV]):p:=h
theorem wY{p:Prop}(h:p:=by rw[beq_eq_false_iff_ne];exact ha):p:=h
theorem wZ{p:Prop}(h:p:=by simp[results,Tryz.results158,go_sem]):p:=h
theorem xA{p:Prop}(h:p:=by first|(rw[HM.out];done)|(rw[HM.out];rfl)|(rw[HM.out];simp)):p:=h
theorem xB{p:Prop}(h:p:=by have h1:=hb.1;show w.heap.size<=b;omega):p:=h
theorem xD{p:Prop}(h:p:=by have hb:b=p.pb:=hb;omega):p:=h
theorem xE{p:Prop}(h:p:=by rw[Bool.eq_iff_iff];simp;omega):p:=h
theorem xF{p:Prop}(h:p:=by cases h;kernel_rfl):p:=h
theorem xG{p:Prop}(h:p:=by rw[IntKind.wrap_i64];omega):p:=h
theorem xH{p:Prop}(h:p:=by simp<;>omega):p:=h
theorem xI{p:Prop}(h:p:=by rw[HF.out]):p:=h
theorem xJ{p:Prop}(h:p:=by rw[bF];exact⟨_,_,rfl,by decide,by decide,aK.nil _ _ _ _,aK.nil _ _ _ _⟩):p:=h
theorem xK{p:Prop}(h:p:=by rfl):p:=h
theorem xL{p:Prop}(h:p:=by simpa using h):p:=h
theorem xM{p:Prop}(h:p:=by injection e with e1 e2 e3;exact⟨e1,e3⟩):p:=h
theorem xN{p:Prop}(h:p:=by obtain⟨y0,y1,y2,y3,y4⟩:=(bx5 (aD hW HBX.out)).1;go_simp<;>omega):p:=h
theorem xO{p:Prop}(h:p:=by rw[HR.out];rfl):p:=h
theorem xP{p:Prop}(h:p:=by simpa using heap_alloc_new ((w7.setCell ⟨w6.heap.size,1,none⟩ (.int .i64 k)).setCell ⟨w6.heap.size,2,none⟩ (.slice sa sn sc)) (.cells #[.string a,.int .i64 k,.slice sa sn sc] 184)):p:=h
theorem xQ{p:Prop}(h:p:=by rw[OpenClaim.pre_eq_preRow];exact lifted os started H enc F):p:=h
theorem xR{p:Prop}(h:p:=by have hi1:(0:Int)<=(q:Int)-1:=(by omega);have hi2:(q:Int)-1<(fs.length:Int):=(by omega);have hi3:((q:Int)-1).toNat=q-1:=(by omega);have hi4:¬(q:Int)<1:=(by omega);go_simp):p:=h
theorem xS{p:Prop}(h:p:=by have hb:b=p.pb:=hb;have:=HW.out.blt;omega):p:=h
theorem xT{p:Prop}(h:p:=by obtain⟨V9,hV⟩:=hW;have q5:=hV.off.cell hni2 r5;go_simp):p:=h
theorem xU{p:Prop}(h:p:=by have:=HB.out.1;omega):p:=h
theorem xV{p:Prop}(h:p:=by rw[HM.out,fns_bad HX.out (.inr (.inr (by rw[HR.out];rfl))) HSq.out];simp):p:=h
theorem xW{p:Prop}(h:p:=by have h1:=hn.1;rcases hb with(e|e|e|e)|e<;>omega):p:=h
theorem xX{p:Prop}(h:p:=by simp[eW] at hleaf;omega):p:=h
theorem xY{p:Prop}(h:p:=by rw[hxy];rfl):p:=h
theorem xZ{p:Prop}(h:p:=by rw[hxy];simp):p:=h
theorem yA{p:Prop}(h:p:=by have hb:w4.heap.size<=b:=hb;omega):p:=h
theorem yB{p:Prop}(h:p:=by rw[bF];exact⟨_,_,rfl,hsns,by decide,aK.nil _ _ _ _,aK.nil _ _ _ _⟩):p:=h
theorem yC{p:Prop}(h:p:=by rw[beq_eq_false_iff_ne];exact k0):p:=h
theorem yD{p:Prop}(h:p:=by rw[bne_eq_false_iff_eq];exact hA):p:=h
theorem yE{p:Prop}(h:p:=by rw[HS1.out,hsn];simp[hgt]):p:=h
theorem yF{p:Prop}(h:p:=by have h:=HX1.out;rw[HMV.out] at h;exact h):p:=h
theorem yG{p:Prop}(h:p:=by cases h):p:=h
theorem yH{p:Prop}(h:p:=by rw[beq_iff_eq];exact k0):p:=h
theorem yI{p:Prop}(h:p:=by have x0:=aC hW q0;have x1:=aC hW q1;have x2:=aC hW q2;have y0:=aC hW t0;have y1:=aC hW t1;have z0:=aC hW hp0;go_simp):p:=h
theorem yJ{p:Prop}(h:p:=by have:=HS.out.blt;intro e;have e:w.heap.size=p.pb:=e;omega):p:=h
theorem yK{p:Prop}(h:p:=by rw[HSp.out,hq',List.drop_length];rfl):p:=h
theorem yL{p:Prop}(h:p:=by simp at h):p:=h
theorem yM{p:Prop}(h:p:=by simp[results,Tryz.results218,go_sem,r0,r1,r2,r3,r4,r5]):p:=h
theorem yN{p:Prop}(h:p:=by simp[results,Tryz.results29,go_sem]):p:=h
theorem yO{p:Prop}(h:p:=by rcases hb with e|e<;>omega):p:=h
theorem yP{p:Prop}(h:p:=by simpa[bI] using hown):p:=h
theorem yQ{p:Prop}(h:p:=by have hn:B4<=b:=hn;rcases hb with(e|e|e|e)|e<;>omega):p:=h
theorem yR{p:Prop}(h:p:=by have hb:w6.heap.size<=b:=hb;omega):p:=h
theorem yS{p:Prop}(h:p:=by have h:=hjx 0 _ rfl;simpa using h):p:=h
theorem yT{p:Prop}(h:p:=by have h:=hjx 1 _ rfl;simpa using h):p:=h
theorem yU{p:Prop}(h:p:=by have h:=hjx 2 _ rfl;simpa using h):p:=h
theorem yV{p:Prop}(h:p:=by have h:=hjx 3 _ rfl;simpa using h):p:=h
theorem yW{p:Prop}(h:p:=by have h:=hjx 4 _ rfl;simpa using h):p:=h
theorem yX{p:Prop}(h:p:=by have h:=hjx 5 _ rfl;simpa using h):p:=h
theorem yY{p:Prop}(h:p:=by have h:=hjy 0 _ rfl;simpa using h):p:=h
theorem yZ{p:Prop}(h:p:=by have h:=hjy 1 _ rfl;simpa using h):p:=h
theorem zA{p:Prop}(h:p:=by have h:=hjy 2 _ rfl;simpa using h):p:=h
theorem zB{p:Prop}(h:p:=by have h:=hjy 3 _ rfl;simpa using h):p:=h
theorem zC{p:Prop}(h:p:=by have h:=hjy 4 _ rfl;simpa using h):p:=h
theorem zD{p:Prop}(h:p:=by have h:=hjy 5 _ rfl;simpa using h):p:=h
theorem zE{p:Prop}(h:p:=by rw[HI.out.len];exact hkk):p:=h
theorem zF{p:Prop}(h:p:=by have:=HB.out;have:=HJ4.out;omega):p:=h
theorem zG{p:Prop}(h:p:=by rw[beq_eq_false_iff_ne];exact h1):p:=h
theorem zH{p:Prop}(h:p:=by have h:=hj 0 _ rfl;simpa using h):p:=h
theorem zI{p:Prop}(h:p:=by have:=(HQ5.out.own b2 e).2;omega):p:=h
theorem zJ{p:Prop}(h:p:=by decide+kernel):p:=h
theorem zK{p:Prop}(h:p:=by exact(jW _)):p:=h
theorem zL{p:Prop}(h:p:=by simpa using hat):p:=h
theorem zM{p:Prop}(h:p:=by have e:w6.heap.size=p.pb:=e;have:=ha6.blt;omega):p:=h
theorem zN{p:Prop}(h:p:=by have:=hg.size;simpa using this):p:=h
theorem zO{p:Prop}(h:p:=by simpa[Value.ownBlock] using hb):p:=h
theorem zP{p:Prop}(h:p:=by simpa[Value.ownBlock] using e):p:=h
theorem zQ{p:Prop}(h:p:=by (cases h)):p:=h
theorem zR{p:Prop}(h:p:=by have hwq:IntKind.i64.wrap ((q:Int)-1)=(q:Int)-1:=(by rw[IntKind.wrap_i64];omega);go_simp):p:=h
theorem zS{p:Prop}(h:p:=by rw[<-h.map];exact List.mem_map.2 ⟨y,hy,rfl⟩):p:=h
theorem zT{p:Prop}(h:p:=by have hb:B4<=b:=hb;show w.heap.size<=b;omega):p:=h
theorem zW{p:Prop}(h:p:=by rw[HXY.out];simp):p:=h
theorem zX{p:Prop}(h:p:=by simp[Value.ownBlock]):p:=h
theorem zY{p:Prop}(h:p:=by rw[hq];simp):p:=h
theorem zZ{p:Prop}(h:p:=by obtain⟨V9,hV⟩:=hW;have q5:=hV.off.cell hni4 r5;have q2:=hV.off.cell hni4 r2;go_simp):p:=h
theorem AA{p:Prop}(h:p:=by have hwd:IntKind.i64.wrap (d:Int)=(d:Int):=(by rw[IntKind.wrap_i64];omega);go_simp):p:=h
theorem AB{p:Prop}(h:p:=by have hb:w20.heap.size<=b:=hb;have:=HS20.out.lt;exact⟨by omega,by omega,by omega⟩):p:=h
theorem AC{p:Prop}(h:p:=by have hb:b=p.pb:=hb;have:=hW.blt;omega):p:=h
theorem AD{p:Prop}(h:p:=by obtain⟨y0,y1,y2,y3⟩:=bx4 hW.1;go_simp):p:=h
theorem AE{p:Prop}(h:p:=by cases hh:aR files with|true=>rfl|false=>exact absurd (.inr (.inl hh)) hbad):p:=h
theorem AF{p:Prop}(h:p:=by have hb2:b=b5:=hb2;omega):p:=h
theorem AG{p:Prop}(h:p:=by exact⟨by omega,by omega⟩):p:=h
theorem AH{p:Prop}(h:p:=by simp[results,Tryz.results140,go_sem,r0,r1,r2,r3,r4,r5,r6,r7,r8,r9,r10,r11]):p:=h
theorem AI{p:Prop}(h:p:=by simpa using he):p:=h
theorem AJ{p:Prop}(h:p:=by simp[results,Tryz.results107,go_sem]):p:=h
theorem AK{p:Prop}(h:p:=by simpa using ‹(!isP p.l j12 bW)=true›):p:=h
theorem AL{p:Prop}(h:p:=by rw[bne_iff_ne];exact he):p:=h
theorem AM{p:Prop}(h:p:=by rw[hz9];exact hat):p:=h
theorem AN{p:Prop}(h:p:=by rw[iE];exact⟨_,rfl,aK.nil _ _ _ _⟩):p:=h
theorem AO{p:Prop}(h:p:=by simpa using ‹(!isP p.l j bW)=true›):p:=h
theorem AP{p:Prop}(h:p:=by have hb:B<=b:=hb;omega):p:=h
theorem AQ{p:Prop}(h:p:=by simpa using hbig):p:=h
theorem AR{p:Prop}(h:p:=by have h:=hj' 0 _ rfl;simpa using h):p:=h
theorem AS{p:Prop}(h:p:=by rw[beq_eq_false_iff_ne];exact hk2):p:=h
theorem AT{p:Prop}(h:p:=by obtain⟨⟨z0,z1,z2,z3,z4,z5,z6,z7,z8,z9,z10,z11⟩,-⟩:=lR hW.1;go_simp):p:=h
theorem AV{p:Prop}(h:p:=by rw[beq_eq_false_iff_ne];exact k2):p:=h
theorem AW{p:Prop}(h:p:=by simp[Value.ownBlock] at hk;omega):p:=h
theorem AX{p:Prop}(h:p:=by cases hh:aP s with|true=>rfl|false=>exact absurd (.inl hh) hbad):p:=h
theorem AY{p:Prop}(h:p:=by rw[dD];exact decide_eq_false he):p:=h
theorem AZ{p:Prop}(h:p:=by simp[results,Tryz.results110,go_sem,r0,r1,r2,r3,r4,r5,r6,r7,r8]):p:=h
theorem A1{p:Prop}(h:p:=by obtain⟨_,_,_,h1,h2,-⟩:=hr;omega):p:=h
theorem A2{p:Prop}(h:p:=by unfold gL;rw[hq];rfl):p:=h
theorem A3{p:Prop}(h:p:=by simp[results,Tryz.results84,go_sem,r0,r1,r2,r3,r4,r5,r6,r7,r8]):p:=h
theorem A4{p:Prop}(h:p:=by rw[bF];exact⟨_,_,rfl,by decide,by decide,aK.nil _ _ _ _,HRow⟩):p:=h
theorem A5{p:Prop}(h:p:=by rw[bF];exact⟨_,_,rfl,by decide,by decide,aK.nil _ _ _ _,hRow⟩):p:=h
theorem A6{p:Prop}(h:p:=by have h:=hx48;unfold iI at h;split at h;(assumption);(cases h)):p:=h
theorem A7{p:Prop}(h:p:=by rw[aU (aU (aU (aU (aU (aU HS21.out.loc _) _) _) _) _) _];rfl):p:=h
theorem A8{p:Prop}(h:p:=by have:=h1.size;omega):p:=h
theorem BB{p:Prop}(h:p:=by simpa using hy):p:=h
theorem BC{p:Prop}(h:p:=by simp[results,Tryz.results218,go_sem,r0,r1,r2,r3,r4,r5,hbl5]):p:=h
theorem BD{p:Prop}(h:p:=by have h1:=hn.2;omega):p:=h
theorem BE{p:Prop}(h:p:=by have h:=HA5.out.set q (-1);rw[rep_set q _ hlt] at h;exact h):p:=h
theorem BF{p:Prop}(h:p:=by have q1:=hW;go_simp):p:=h
end Go.Proofs.YtacgopankhpnbaaGreatDoor
namespace Go.Proofs.YtacgopankhpnbaaGreatDoor
open Go.RowKit Go.Maps
structure KeyC (P:Program) (t:TypeId) (κ:Type) where
 lit:κ->Lit
 val:κ->Value
 ok:κ->Prop
 inj:∀a b,lit a=lit b->a=b
 key:∀a,ok a->keyOf P t (val a)=some (lit a)
 keyed:Keyed P t
 isKey:∀a,WideAt.IsKeyLit (lit a)
structure ValC (P:Program) (t:TypeId) (ν:Type) where
 lit:ν->Lit
 val:ν->Value
 ok:ν->Prop
 zero:ν
 zok:ok zero
 rd:∀x,ok x->plainElem (H:=Unit) P t (val x)=some (.lit (lit x),[])
 inv:∀v x ps,plainElem (H:=Unit) P t v=some (.lit (lit x),ps)->v=val x
 zrun:∀w,(zeroValue t).run P w=.ok (val zero) w
theorem cR{s t:ByteArray}(h:s.data.toList=t.data.toList):s=t:=by
 cases s;cases t;congr;exact Array.toList_inj.1 h
section
variable {P:Program} {t:TypeId}
def strKey(h:P.underlying t=some .string):KeyC P t ByteArray where
 lit s:=.string s.data.toList
 val:=.string
 ok s:=s.size<=maxLen
 inj a b h:=cR (by simpa using h)
 key a ha:=Go.WideMaps.keyOf_string_mk h ha
 keyed:=string_keyed h
 isKey _:=trivial
def intKey(h:P.underlying t=some (.int .i64)):KeyC P t Int where
 lit:=.int .i64
 val:=.int .i64
 ok n:=(Lit.int .i64 n).wf=true
 inj a b h:=by simpa using h
 key a ha:=keyOf_int_mk h ha
 keyed:=int_keyed h
 isKey _:=trivial
def boolVal(h:P.underlying t=some .bool)(hz:∀w,(zeroValue t).run P w=.ok (.bool false) w):ValC P t Bool where
 lit:=.bool
 val:=.bool
 ok _:=True
 zero:=false
 zok:=trivial
 rd x _:=plainElem_bool h x
 inv v x ps hv:=by
  unfold plainElem at hv;rw[h] at hv;cases v<;>simp at hv;rw[hv.1]
 zrun:=hz
def intVal(h:P.underlying t=some (.int .i64))(hz:∀w,(zeroValue t).run P w=.ok (.int .i64 0) w):ValC P t Int where
 lit:=.int .i64
 val:=.int .i64
 ok n:=(Lit.int .i64 n).wf=true
 zero:=0
 zok:=by decide
 rd x hx:=plainElem_int h hx
 inv v x ps hv:=by
  obtain⟨a,rfl,e,-⟩:=plainElem_int_inv h hv;simp at e;rw[e.1]
 zrun:=hz
end
section
variable {P:Program} {kt et t:TypeId} {κ ν:Type} {K:KeyC P kt κ} {V:ValC P et ν} {w:World} {b n:Nat} {m:κ->Option ν}
def bD(K:KeyC P kt κ)(V:ValC P et ν)(w:World)(b n:Nat)(m:κ->Option ν):Prop:=
 ∃D:DataW Unit,w.ownsMap P kt (plainElem P et) b n D/\∀x z,D.atKey (K.lit x) z=(match m x with|some v=>.lit (V.lit v)|none=>z)
theorem bD.made(w:World):bD K V (w.alloc (.map #[] 0)) w.heap.size 0 (fun _=>none):=
 ⟨.map [],World.ownsMap_made w P kt _,fun _ _=>rfl⟩
theorem bD.of_block{w':World}(h:bD K V w b n m)(hb:w'.heap[b]? =w.heap[b]?):bD K V w' b n m:=by
 obtain⟨D,⟨es,clock,h1,r⟩,h2⟩:=h;exact⟨D,⟨es,clock,hb.trans h1,r⟩,h2⟩
theorem bD.lt(h:bD K V w b n m):b<w.heap.size:=by obtain⟨D,h1,-⟩:=h;exact h1.lt
theorem bD.later{w':World}(h:bD K V w b n m)(hb:Below w.heap.size w w'):bD K V w' b n m:=h.of_block (hb.block b h.lt)
theorem bD.alloc(h:bD K V w b n m)(o:Obj):bD K V (w.alloc o) b n m:=h.of_block (Below.heap_alloc _ _ _ h.lt)
theorem bD.setCell(h:bD K V w b n m){a:Addr}(ha:b≠a.block)(u:Value):bD K V (w.setCell a u) b n m:=h.of_block (Below.heap_setCell _ _ _ _ ha)
theorem bD.ext{m':κ->Option ν}(h:bD K V w b n m)(e:∀x,m x=m' x):bD K V w b n m':=by
 have:m=m':=funext e;exact this▸h
theorem bD.look(h:bD K V w b n m)(ht:P.underlying t=some (.map kt et)){x:κ}(hx:K.ok x):
  (Instr.lookup t (.map (some b)) (K.val x) false).run P w=.ok (V.val ((m x).getD V.zero)) w:=by
 obtain⟨D,h1,h2⟩:=h;obtain⟨v,ps,hrun,hv⟩:=h1.lookup K.keyed ht (V.zrun w) (V.rd _ V.zok) (K.key x hx);rw[h2] at hv
 cases hm:m x with
 |none=>rw[hm] at hv;rw[hrun,V.inv v _ ps hv];rfl
 |some y=>rw[hm] at hv;rw[hrun,V.inv v _ ps hv];rfl
theorem bD.look2(h:bD K V w b n m)(ht:P.underlying t=some (.map kt et)){x:κ}(hx:K.ok x):
  (Instr.lookup t (.map (some b)) (K.val x) true).run P w=.ok (.tuple #[V.val ((m x).getD V.zero),.bool (m x).isSome]) w:=by
 obtain⟨D,h1,h2⟩:=h;obtain⟨v,ps,hrun,hv⟩:=h1.look_ok K.keyed ht (V.zrun w) (V.rd _ V.zok) (K.key x hx);rw[h2] at hv
 cases hm:m x with
 |none=>
  rw[hm] at hv;have:Maps.has D (K.lit x)=false:=Maps.has_false_of_atKey fun z=>by rw[h2,hm]
  rw[hrun,V.inv v _ ps hv,this];rfl
 |some y=>
  rw[hm] at hv;have:Maps.has D (K.lit x)=true:=Maps.has_true_of_atKey (y:=.lit (V.lit y)) fun z=>by rw[h2,hm]
  rw[hrun,V.inv v _ ps hv,this];rfl
open Classical in
theorem bD.store(h:bD K V w b n m)(ht:P.underlying t=some (.map kt et))(hn:n<maxLen){x:κ}(hx:K.ok x){y:ν}(hy:V.ok y):
  ∃w',(Instr.mapUpdate t (.map (some b)) (K.val x) (V.val y)).run P w=.ok () w'/\bD K V w' b (n+1) (fun z=>if z=x then some y else m z)/\w.grownBy w' (some b):=by
 obtain⟨D,h1,h2⟩:=h;obtain⟨w',hrun,h3,hg⟩:=h1.update K.keyed ht hn (K.key x hx) (V.rd y hy);refine⟨w',hrun,⟨_,h3,fun z d=>?_⟩,hg⟩;by_cases hz:z=x
 ·subst hz;rw[atKey_put_same h1.isMap (K.isKey z)];simp
 ·rw[atKey_put_other (fun e=>hz (K.inj _ _ e)),h2];simp[hz]
theorem wpList_look{ops:Array Oper}{rest:List Oper}{o:Oper}{a:Act}{Q:Exit->Act->World->Prop}(hg:o.guard=none){mo xo:Operand}(hop:o.op=Op.lookup t mo xo false)
  (ht:P.underlying t=some (.map kt et)) (h:bD K V w b n m) (hm:a.eval mo=.map (some b)) {x:κ} (hx:K.ok x) (hxe:a.eval xo=K.val x)
  (hK:wpList P ops Q rest (a.put o.dst (V.val ((m x).getD V.zero))) w):wpList P ops Q (o::rest) a w:=by
 refine wpList_plain hg fun K' hK'=>?_;have hrun:=h.look ht hx;unfold Oper.wp;simp[execOp,hop,hm,hxe,hrun,Result.andThen];exact hK' _ _ hK
open Classical in
theorem wpList_put{ops:Array Oper}{rest:List Oper}{o:Oper}{a:Act}{Q:Exit->Act->World->Prop}(hg:o.guard=none){mo xo vo:Operand}(hop:o.op=Op.mapUpdate t mo xo vo)
  (ht:P.underlying t=some (.map kt et)) (h:bD K V w b n m) (hn:n<maxLen) (hm:a.eval mo=.map (some b)) {x:κ} (hx:K.ok x) (hxe:a.eval xo=K.val x) {y:ν} (hy:V.ok y) (hye:a.eval vo=V.val y)
  (hK:∀w',bD K V w' b (n+1) (fun z=>if z=x then some y else m z)->w.grownBy w' (some b)->wpList P ops Q rest (a.put o.dst undef) w'):wpList P ops Q (o::rest) a w:=by
 refine wpList_plain hg fun K' hK'=>?_;obtain⟨w',hrun,h1,h2⟩:=h.store ht hn hx hy;unfold Oper.wp;simp[execOp,hop,hm,hxe,hye,hrun,Result.andThen];exact hK' _ _ (hK w' h1 h2)
end
end Go.Proofs.YtacgopankhpnbaaGreatDoor
