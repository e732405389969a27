/- Texts of this seat, joined. -/
import Derived.Test.YtiionicikdnnpaaGreatDoorNX
set_option maxHeartbeats 16000000
set_option maxRecDepth 100000
set_option linter.unusedVariables false
set_option linter.unusedSimpArgs false
namespace Go.Proofs.YtiionicikdnnpaaGreatDoor
open Go.RowKit
theorem wholes_any(p:Prs)(hX:ExpAll p)(n:Nat)(hn:n<=1000)(w:World)(i:Nat)(s:bA)(h:p.At w i):Calls Tryz.prog 122 #[.pointer (some ⟨p.pb,0,none⟩),.int .i64 (n:Int),.string s] w
  (Ran p.S w (fL p.l n i s) (RowV p 6 bJ w i)):=by
 obtain⟨i0,xS,xN,sG,rU⟩:=info_parts xpInfo;have HW:=zh h;have qG:=h.len
 cases n with
 |zero=>
  have HR:Hid (fL p.l 0 i s=(dD p.l i s).bnd fun _ j=>.ok ([],j)):=zh rfl;clear h hX;go_enter Tryz.func122,Tryz.ntmps122;go_wp2_with(go_at_call 110;refine(dK p w i s HW.out).mono ?_;rintro e w1 (⟨x,hx,rfl,qE⟩|⟨⟨⟩,j,hx,⟨rfl,qP⟩,qE⟩))
  ·exact RW
  have hj:=(cX hx).1;go_ret;exact Ran.good (HR.out.trans (PR.bnd_ok hx)) ⟨none,0,0,rfl,aO.nil _ _ _ _,qP,RY⟩ qE
 |succ n=>
  have HX:=zh hX;have HR:Hid (fL p.l (n+1) i s=dR p.l s n [] i):=zh rfl;have vL:((n+1:Nat):Int)=(n:Int)+1:=RY;rw[vL];have FP:(n:Int)+1<=1000:=RY;have hn3:((n:Int)+1==0)=false:=SA;clear h hX vL;go_enter Tryz.func122,Tryz.ntmps122;go_wp2_with fail;have OF:Hid (GrL 6 35 bJ p w [] [] (.slice none 0 0) i w):=zh ⟨Off.refl _ _,Gro.first _ _ _ _,HW.out⟩;go_loopw [7,15] (fun v c wr=>∃(k:Nat)(a:Option Addr)(cc q:Nat)(out:List Xp)(css:List (List Value)),k<=n/\c=.int .i64 (k:Int)/\v=.slice a out.length cc/\Hid (GrL 6 35 bJ p w out css v q wr)/\Hid (fL p.l (n+1) i s=dR p.l s (n-k) out q)/\Hid (i<=q/\out.length=k)) (fun _ c _=>n-(intOf c).toNat)
  case atStart=>exact⟨0,none,0,i,[],[],RY,rfl,rfl,OF,HR,zh ⟨Nat.le_refl _,rfl⟩⟩
  case round=>
   obtain⟨k,a,cc,q,out,css,hk,rfl,rfl,HL,qI,HB⟩:=hrel;(rename World=>wr);have zF:=HB.out.1;(have zE:out.length<=1000:=by have:=HB.out.2;omega);by_cases qA:k<n
   ·have uJ:Hid (fL p.l (n+1) i s=(iM p.l q aY).bnd fun x j=>dR p.l s (n-(k+1)) (out++[x]) j):=zh (by rw[qI.out,show n-k=(n-(k+1))+1 by omega];rfl);go_wp2_with(first|(at_builtin;have HL9:=HL.out.next aH HW.out (qO.trans (Ba (aB w7 (aN op n1 s1 m a1 m1 c1 a2 m2 c2)))) (rX.later (aB _ _));have sA:=HL9.acc;have sB:=sA.big;refine wpList_append_lies _ rfl _ _ 25 rfl w.heap.size 35 i0 (dW 0 0 ByteArray.empty ByteArray.empty none 0 0 none 0 0) 6 96 Tryz.underlying25 xS xN sG rU rfl RY (.slice a out.length cc) out.length css.flatten TH sA.own ⟨w7.heap.size,0,none⟩ 1 1 [.int .i64 op,.int .i64 n1,.string s1,.string m,.slice a1 m1 c1,.slice a2 m2 c2] TH rfl (World.news_of_block (cs:=#[.int .i64 op,.int .i64 n1,.string s1,.string m,.slice a1 m1 c1,.slice a2 m2 c2]) (t:=35) (fr:=(0,0)) (bY w7 _)) SG RY SH RY sB (w7.heap.size+1) R2 ?_)|(go_at_call 118;refine(mP p HX.out wr q aY HL.out.at_).mono ?_;rintro e w7 (⟨x7,rJ,rfl,qO⟩|⟨x,j,rJ,⟨⟨op,n1,s1,m,a1,m1,c1,a2,m2,c2,rfl,hex⟩,rX,hqj⟩,qO⟩)))
    ·exact⟨rfl,Ran.bad' (uJ.out.trans (PR.bnd_bad rJ)) (HL.out.off.trans qO)⟩
    intro g cap rB pR pM qV _;have sU:=zh (HL.out.step aH HW.out (qO.trans (Ba (aB w7 (aN op n1 s1 m a1 m1 c1 a2 m2 c2)))) (rX.later (aB _ _)) (HL.out.fresh_enc aH (aH _ _ _ _ _ _ (aQ.later (aB w7 (aN op n1 s1 m a1 m1 c1 a2 m2 c2))) hex)) rfl pR rfl pM VF).1;have vY:=zh (uJ.out.trans (PR.bnd_ok rJ));have HJ:Hid (i<=j/\(out++[x]).length=k+1):=zh ⟨RY,by simp[HB.out.2]⟩;clear pR pM qV hex rX qO rJ HL qI uJ;go_wp2_with fail;go_roundw;(case rel=>exact⟨k+1,some ⟨g,0,none⟩,cap,j,out++[x],_,RY,SK,R2,sU,vY,HJ⟩);case measure=>simp[intOf];omega
   have MT:k=n:=RY;have uJ:Hid (fL p.l (n+1) i s=(iM p.l q s).bnd fun x j=>.ok (out++[x],j)):=zh (by rw[qI.out,MT,Nat.sub_self];rfl);subst MT;go_wp2_with(first|(at_builtin;have HL9:=HL.out.next aH HW.out (qO.trans (Ba (aB w7 (aN op n1 s1 m a1 m1 c1 a2 m2 c2)))) (rX.later (aB _ _));have sA:=HL9.acc;have sB:=sA.big;refine wpList_append_lies _ rfl _ _ 25 rfl w.heap.size 35 i0 (dW 0 0 ByteArray.empty ByteArray.empty none 0 0 none 0 0) 6 96 Tryz.underlying25 xS xN sG rU rfl RY (.slice a out.length cc) out.length css.flatten TH sA.own ⟨w7.heap.size,0,none⟩ 1 1 [.int .i64 op,.int .i64 n1,.string s1,.string m,.slice a1 m1 c1,.slice a2 m2 c2] TH rfl (World.news_of_block (cs:=#[.int .i64 op,.int .i64 n1,.string s1,.string m,.slice a1 m1 c1,.slice a2 m2 c2]) (t:=35) (fr:=(0,0)) (bY w7 _)) SG RY SH RY sB (w7.heap.size+1) R2 ?_)|(go_at_call 118;refine(mP p HX.out wr q s HL.out.at_).mono ?_;rintro e w7 (⟨x7,rJ,rfl,qO⟩|⟨x,j,rJ,⟨⟨op,n1,s1,m,a1,m1,c1,a2,m2,c2,rfl,hex⟩,rX,hqj⟩,qO⟩)))
   ·exact⟨rfl,Ran.bad' (uJ.out.trans (PR.bnd_bad rJ)) (HL.out.off.trans qO)⟩
   intro g cap rB pR pM qV _;have sU:=zh (HL.out.step aH HW.out (qO.trans (Ba (aB w7 (aN op n1 s1 m a1 m1 c1 a2 m2 c2)))) (rX.later (aB _ _)) (HL.out.fresh_enc aH (aH _ _ _ _ _ _ (aQ.later (aB w7 (aN op n1 s1 m a1 m1 c1 a2 m2 c2))) hex)) rfl pR rfl pM VF).1;have hR:=uJ.out.trans (PR.bnd_ok rJ);clear pR pM qV hex rX qO rJ;go_wp2_with fail;go_ret;exact Ran.good hR ⟨_,_,_,rfl,by simpa using sU.out.acc.row aH,sU.out.at_,RY⟩ sU.out.off
theorem QH{p:Prop}(h:p:=by
 refine congrArg eN (funext fun z=>?_);simp only[List.any_append,List.any_cons,List.any_nil,Bool.or_false];rw[Bool.or_comm];by_cases h:a=z
 ·subst h;rfl
 have h2:¬z=a:=fun e=>h e.symm
 simp only[decide_eq_false h,decide_eq_false h2]):p:=h
theorem Gro.cells{α:Type}{k:Nat}{T:TypeId}{enc:(Nat->Prop)->World->α->List Value->Prop}{B:Nat}{l:List α}{css:List (List Value)}{v:Value}{w:World}(h:Gro k T enc B l css v w){b:Nat}(hb:v.ownBlock=some b):∃cs t fr,w.heap[b]? =some (.cells cs t fr):=by
 rcases h.own.2 with⟨rfl,-⟩|⟨g,cap,cur,rfl,-,JU,-⟩
 ·cases hb
 have e:g=b:=by simpa[Value.ownBlock] using hb
 subst e;exact⟨_,_,_,JU⟩
theorem Gro.nemap{α:Type}{k:Nat}{T:TypeId}{enc:(Nat->Prop)->World->α->List Value->Prop}{B:Nat}{l:List α}{css:List (List Value)}{v:Value}{w:World}(h:Gro k T enc B l css v w){km:Nat}(hm:gU w km):v.ownBlock≠some km:=fun e=>by
 obtain⟨cs,t,fr,h1⟩:=h.cells e;obtain⟨es,c,h2⟩:=hm;rw[h1] at h2;cases h2
section
variable {α:Type} {k:Nat} {T:TypeId} {enc:(Nat->Prop)->World->α->List Value->Prop} {p:Prs} {W w5 w9 rB:World} {out:List α} {css:List (List Value)} {v:Value} {q j i0 km:Nat}
theorem GrL.fresh(he:fM enc)(hW:p.At W i0)(h:GrL k T enc p W out css v q w5)(hm:gU w5 km)(hk:W.heap.size<=km)(ho:Off (p.S2 km) w5 w9)(ha:p.At w9 j):GrL k T enc p W out css v j w9:=
 ⟨Off.fresh ((h.off.or _).trans (ho.mono fun b hb=>hb.elim (fun e=>.inl e) (fun e=>.inr RY))) (Nat.le_refl _),
  h.acc.stays he (dC.of_off ho fun b hb=>hb.elim (fun e=>.inl (by have:=hW.blt;omega)) (fun e=>.inr (by rw[e];exact hm))),ha⟩
end
theorem GrL.field{p:Prs}{W w6 w7 rB:World}{g cap n1 i0 j2 q:Nat}{fs:List Fld}{css:List (List Value)}{v:Value}{a:bA}{t:Ty}{k:Int}{sa:Option Addr}{sn sc:Nat}(hW:p.At W i0)(h6:GrL 3 105 fH p W fs css v q w6)
  (qO:Off p.S (w6.alloc (cA a 0 none 0 0)) w7) (rX:p.At w7 j2) (sT:gB (bO (w6.alloc (cA a 0 none 0 0)).heap.size) w7 t [.int .i64 k,.slice sa sn sc]) (hs:a.size<=8000)
  (pR:rB.ownsRow W.heap.size 105 3 (.slice (some ⟨g,0,none⟩) n1 cap) n1 (css.flatten++[.string a,.int .i64 k,.slice sa sn sc])) (hn:n1=fs.length+1) (pM:(((w7.setCell ⟨w6.heap.size,1,none⟩ (.int .i64 k)).setCell ⟨w6.heap.size,2,none⟩ (.slice sa sn sc)).alloc (cA a k sa sn sc)).grownBy rB v.ownBlock) (qV:v.ownBlock=some g\/g=w7.heap.size+1):
  GrL 3 105 fH p W (fs++[(a,t)]) (css++[[.string a,.int .i64 k,.slice sa sn sc]]) (.slice (some ⟨g,0,none⟩) n1 cap) j2 rB/\gB (bO (w6.heap.size+1)) rB t [.int .i64 k,.slice sa sn sc]/\
  rB.heap[w6.heap.size]? =some (cA a k sa sn sc)/\Off (fun b=>b=w6.heap.size\/v.ownBlock=some b) w7 rB:=by
 have tX:=h6.acc.big;have tY:=hW.blt;have qA:=h6.acc.lt;have sV:(w6.alloc (cA a 0 none 0 0)).heap.size=w6.heap.size+1:=R2;have o7:Off p.S w6 w7:=(Ba (aB w6 (cA a 0 none 0 0))).trans qO;have ET:w6.heap.size+1<=w7.heap.size:=by have:=qO.size;omega
 have o8:Off (fun b=>b=w6.heap.size) w7 ((w7.setCell ⟨w6.heap.size,1,none⟩ (.int .i64 k)).setCell ⟨w6.heap.size,2,none⟩ (.slice sa sn sc)):=(Off.setCell (S:=fun b=>b=w6.heap.size) w7 rfl).trans (Off.setCell (S:=fun b=>b=w6.heap.size) _ rfl);have o9:Off (fun b=>b=w6.heap.size) w7 (((w7.setCell ⟨w6.heap.size,1,none⟩ (.int .i64 k)).setCell ⟨w6.heap.size,2,none⟩ (.slice sa sn sc)).alloc (cA a k sa sn sc)):=o8.trans (Ba (aB _ _));have O9:Off p.S w6 (((w7.setCell ⟨w6.heap.size,1,none⟩ (.int .i64 k)).setCell ⟨w6.heap.size,2,none⟩ (.slice sa sn sc)).alloc (cA a k sa sn sc)):=Off.fresh ((o7.or w6.heap.size).trans (o9.mono fun b hb=>.inr RY)) (Nat.le_refl _);have yA:=hW.above rX (o9.mono (S':=fun b=>W.heap.size<=b) fun b hb=>RY)
 have hx:fH (nD W.heap.size v) (((w7.setCell ⟨w6.heap.size,1,none⟩ (.int .i64 k)).setCell ⟨w6.heap.size,2,none⟩ (.slice sa sn sc)).alloc (cA a k sa sn sc)) (a,t) [.string a,.int .i64 k,.slice sa sn sc]:=by
  exact QF
 have AC:(((w7.setCell ⟨w6.heap.size,1,none⟩ (.int .i64 k)).setCell ⟨w6.heap.size,2,none⟩ (.slice sa sn sc)).alloc (cA a k sa sn sc)).heap.size=w7.heap.size+1:=R2;have hT:=h6.step aT hW O9 yA hx rfl pR hn pM U7;have EX:w7.heap[w6.heap.size]? =some (cA a 0 none 0 0):=qO.heap (fun e=>by have e:w6.heap.size=p.pb:=e;omega) (bY w6 (cA a 0 none 0 0))
 have hf8:(((w7.setCell ⟨w6.heap.size,1,none⟩ (.int .i64 k)).setCell ⟨w6.heap.size,2,none⟩ (.slice sa sn sc)).alloc (cA a k sa sn sc)).heap[w6.heap.size]? =some (cA a k sa sn sc):=by
  refine aC (aB _ _) ?_;rw[aU (aU EX _) _];rfl
 have xY:Off (fun b=>v.ownBlock=some b) (((w7.setCell ⟨w6.heap.size,1,none⟩ (.int .i64 k)).setCell ⟨w6.heap.size,2,none⟩ (.slice sa sn sc)).alloc (cA a k sa sn sc)) rB:=⟨pM.os,pM.tape,pM.output,pM.size,fun b hb hn=>pM.block b hb (fun e=>hn e.symm)⟩;refine⟨hT.1,?_,?_,(o9.mono fun b hb=>.inl hb).trans (xY.mono fun b hb=>.inr hb)⟩
 ·rw[sV] at sT;exact dM.off sT ((o9.mono (S':=fun b=>b<=w6.heap.size) fun b hb=>RY).trans (xY.mono fun b hb=>by have:=(qA b hb).2;omega)) (fun b hb hn=>by have hn:w6.heap.size+1<=b:=hn;omega)
 exact xY.heap (fun e=>by have:=(qA _ e).2;omega) hf8
section
variable {l:List Tok} {F q most:Nat} {fs:List Fld}
theorem nU(hq:cG l q=false):cK l most (F+1) fs q=.error ((aI l q).pos,11):=by
 rw[cK,if_neg UJ];unfold fO;rw[hq];rfl
theorem fieldsFrom_full(hq:cG l q=true)(hm:¬fs.length<most):cK l most (F+1) fs q=.error ((aI l q).pos,6):=by
 rw[cK,if_pos hq];unfold eH;rw[if_neg hm];rfl
theorem kN(hq:cG l q=true)(hm:fs.length<most):cK l most (F+1) fs q=
  (fO l q (fun s=>fs.any fun x=>decide (x.1=s))).bnd fun s j=>(iW l j).bnd fun t j2=>(lE l j2 t bQ).bnd fun q j3=>if q then .ok (fs++[(s,t)],j3) else cK l most F (fs++[(s,t)]) j3:=by
 rw[cK,if_pos hq];unfold eH;rw[if_pos hm];rfl
theorem any_push(fs:List Fld)(a:bA)(t:Ty):(eN fun z=>decide (z=a)||fs.any fun x=>decide (x.1=z))=eN fun s=>(fs++[(a,t)]).any fun x=>decide (x.1=s):=by
 exact QH
theorem freshP_noname{known:bA->Bool}(hq:cG l q=false):fO l q known=.error ((aI l q).pos,11):=by unfold fO;rw[hq];rfl
end
theorem off_S2{p:Prs}{W w5 w9:World}{km:Nat}(h:Off p.S W w5)(ho:Off (p.S2 km) w5 w9)(hk:W.heap.size<=km):Off p.S W w9:=
 Off.fresh ((h.or _).trans (ho.mono fun b hb=>hb.elim (fun e=>.inl e) (fun e=>.inr RY))) (Nat.le_refl _)
end Go.Proofs.YtiionicikdnnpaaGreatDoor
namespace Go.Proofs.YtiionicikdnnpaaGreatDoor
open Go.RowKit
def iU(N:Nat->Prop)(w:World)(f:Fnc)(cs:List Value):Prop:=∃vp k vf op n s m vn va,cs=[.string f.name,.bool f.pub,vp,.int .i64 k,vf,.int .i64 f.effects,.int .i64 op,.int .i64 n,.string s,.string m,vn,va]/\f.name.size<=8000/\
 aO 3 fH N w vp f.params/\gB N w f.result [.int .i64 k,vf]/\bJ N w f.body [.int .i64 op,.int .i64 n,.string s,.string m,vn,va]
theorem bD:fM iU:=fun _ _ _ _ f cs hm h=>by
 obtain⟨vp,k,vf,op,n,s,m,vn,va,h1,h2,h3,h4,h5⟩:=h;exact⟨vp,k,vf,op,n,s,m,vn,va,h1,h2,h3.moves aT hm R0,dM _ _ _ _ _ _ hm h4,aH _ _ _ _ _ _ hm h5⟩
def dY(S:Nat->Prop)(E:World->Prop):Prop:=∀w w',Off S w w'->E w->E w'
theorem dY.and{S:Nat->Prop}{E F:World->Prop}(h:dY S E)(k:dY S F):dY S fun w=>E w/\F w:=fun _ _ ho hE=>⟨h _ _ ho hE.1,k _ _ ho hE.2⟩
theorem dY.true{S:Nat->Prop}:dY S fun _=>True:=fun _ _ _ _=>trivial
theorem dY.row{α:Type}{k:Nat}{enc:(Nat->Prop)->World->α->List Value->Prop}(he:fM enc)(hk:0<k){S N:Nat->Prop}(hS:∀b,S b->¬N b){v:Value}{l:List α}:dY S fun w=>aO k enc N w v l:=
 fun _ _ ho h=>h.moves he (fun b hb _=>⟨hb,fun _ _ hv=>ho.cell (fun hs=>hS b hs hb) hv⟩) hk
theorem dY.enc{α:Type}{enc:(Nat->Prop)->World->α->List Value->Prop}(he:fM enc){S N:Nat->Prop}(hS:∀b,S b->¬N b){x:α}{cs:List Value}:dY S fun w=>enc N w x cs:=fun _ _ ho h=>he.off h ho hS
structure Mk (T:TypeId) (zero:Array Value) (p:Prs) (O S:Nat->Prop) (W:World) (b5:Nat) (cells:Array Value) (E:World->Prop) (q:Nat) (wr:World):Prop where
 off:Off O W wr
 res:wr.heap[W.heap.size]? =some (.cells zero T)
 loc:wr.heap[b5]? =some (.cells cells T)
 at_:p.At wr q
 enc:E wr
 st:dY (fun b=>S b\/b=b5) E
 hb5:W.heap.size<b5
 sO:∀b,S b->O b\/W.heap.size<b
 s5:¬S b5
 sR:¬S W.heap.size
 sP:S p.pb
section
variable {T:TypeId} {zero cells cells':Array Value} {p:Prs} {O S S':Nat->Prop} {W wr w':World} {b5 q j i0:Nat} {E F:World->Prop}
theorem Mk.next(h:Mk T zero p O S W b5 cells E q wr)(ho:Off S wr w')(ha:p.At w' j):Mk T zero p O S W b5 cells E j w':=
 ⟨Off.fresh ((h.off.or _).trans (ho.mono fun b hb=>(h.sO b hb).elim .inl fun e=>.inr (Nat.le_of_lt e))) (Nat.le_refl _),ho.heap h.sR h.res,ho.heap h.s5 h.loc,ha,h.st _ _ (ho.mono fun b hb=>.inl hb) h.enc,h.st,h.hb5,h.sO,h.s5,h.sR,h.sP⟩
theorem Mk.nextP(h:Mk T zero p O S W b5 cells E q wr)(ho:Off p.S wr w')(ha:p.At w' j):Mk T zero p O S W b5 cells E j w':=h.next (ho.mono fun b hb=>by have hb:b=p.pb:=hb;rw[hb];exact h.sP) ha
theorem Mk.below(h:Mk T zero p O S W b5 cells E q wr)(hb:Below wr.heap.size wr w'):Mk T zero p O S W b5 cells E q w':=h.next (Ba hb) (h.at_.later hb)
theorem Mk.put(h:Mk T zero p O S W b5 cells E q wr)(hW:p.At W i0)(ho:Off (fun b=>b=b5) wr w')(hl:w'.heap[b5]? =some (.cells cells' T)):Mk T zero p O S W b5 cells' E q w':=by
 have h1:=h.hb5;exact⟨Off.fresh ((h.off.or _).trans (ho.mono fun b hb=>.inr (by have hb:b=b5:=hb;omega))) (Nat.le_refl _),ho.heap RY h.res,hl,hW.above h.at_ (ho.mono fun b hb=>by have hb:b=b5:=hb;omega),h.st _ _ (ho.mono fun b hb=>.inr hb) h.enc,h.st,h1,h.sO,h.s5,h.sR,h.sP⟩
theorem Mk.add(h:Mk T zero p O S W b5 cells E q wr)(hF:F wr)(hs:dY (fun b=>S b\/b=b5) F):Mk T zero p O S W b5 cells (fun w=>E w/\F w) q wr:=
 ⟨h.off,h.res,h.loc,h.at_,⟨h.enc,hF⟩,h.st.and hs,h.hb5,h.sO,h.s5,h.sR,h.sP⟩
theorem Mk.shrink(h:Mk T zero p O S W b5 cells E q wr)(hS:∀b,S' b->S b)(hp:S' p.pb):Mk T zero p O S' W b5 cells E q wr:=
 ⟨h.off,h.res,h.loc,h.at_,h.enc,fun w w' ho hE=>h.st w w' (ho.mono fun b hb=>hb.elim (fun e=>.inl (hS b e)) .inr) hE,h.hb5,fun b hb=>h.sO b (hS b hb),fun e=>h.s5 (hS _ e),fun e=>h.sR (hS _ e),hp⟩
theorem Mk.lt(h:Mk T zero p O S W b5 cells E q wr):b5<wr.heap.size:=(Array.getElem?_eq_some_iff.1 h.loc).1
end
theorem eD{w:World}{b:Nat}{x0 x1 x2 x3 x4 x5 x6 x7 x8 x9 x10 x11:Value}{t:TypeId}(h:w.heap[b]? =some (.cells #[x0,x1,x2,x3,x4,x5,x6,x7,x8,x9,x10,x11] t)):
  (w.cell? ⟨b,0,none⟩=some x0/\w.cell? ⟨b,1,none⟩=some x1/\w.cell? ⟨b,2,none⟩=some x2/\w.cell? ⟨b,3,none⟩=some x3/\w.cell? ⟨b,4,none⟩=some x4/\w.cell? ⟨b,5,none⟩=some x5/\w.cell? ⟨b,6,none⟩=some x6/\w.cell? ⟨b,7,none⟩=some x7/\w.cell? ⟨b,8,none⟩=some x8/\w.cell? ⟨b,9,none⟩=some x9/\w.cell? ⟨b,10,none⟩=some x10/\w.cell? ⟨b,11,none⟩=some x11)/\
  (w.frozen? ⟨b,0,none⟩=false/\w.frozen? ⟨b,1,none⟩=false/\w.frozen? ⟨b,2,none⟩=false/\w.frozen? ⟨b,3,none⟩=false/\w.frozen? ⟨b,4,none⟩=false/\w.frozen? ⟨b,5,none⟩=false/\w.frozen? ⟨b,6,none⟩=false/\w.frozen? ⟨b,7,none⟩=false/\w.frozen? ⟨b,8,none⟩=false/\w.frozen? ⟨b,9,none⟩=false/\w.frozen? ⟨b,10,none⟩=false/\w.frozen? ⟨b,11,none⟩=false):=
 ⟨⟨(bx h 0 rfl).1,(bx h 1 rfl).1,(bx h 2 rfl).1,(bx h 3 rfl).1,(bx h 4 rfl).1,(bx h 5 rfl).1,(bx h 6 rfl).1,(bx h 7 rfl).1,(bx h 8 rfl).1,(bx h 9 rfl).1,(bx h 10 rfl).1,(bx h 11 rfl).1⟩,(bx h 0 (u:=x0) rfl).2,(bx h 1 (u:=x1) rfl).2,(bx h 2 (u:=x2) rfl).2,(bx h 3 (u:=x3) rfl).2,(bx h 4 (u:=x4) rfl).2,(bx h 5 (u:=x5) rfl).2,(bx h 6 (u:=x6) rfl).2,(bx h 7 (u:=x7) rfl).2,(bx h 8 (u:=x8) rfl).2,(bx h 9 (u:=x9) rfl).2,(bx h 10 (u:=x10) rfl).2,(bx h 11 (u:=x11) rfl).2⟩
abbrev kP:Array Value:=#[.string ⟨#[]⟩,.bool false,.slice none 0 0,.int .i64 0,.slice none 0 0,.int .i64 0,.int .i64 0,.int .i64 0,.string ⟨#[]⟩,.string ⟨#[]⟩,.slice none 0 0,.slice none 0 0]
theorem stbl_S{p:Prs}{b5:Nat}{N:Nat->Prop}(h:∀b,N b->b≠p.pb/\b≠b5):∀b,(p.S b\/b=b5)->¬N b:=fun b hb hn=>hb.elim (fun e=>(h b hn).1 e) (fun e=>(h b hn).2 e)
def set12(w:World)(b:Nat)(x0 x1 x2 x3 x4 x5 x6 x7 x8 x9 x10 x11:Value):World:=
 (((((((((((w.setCell ⟨b,0,none⟩ x0).setCell ⟨b,1,none⟩ x1).setCell ⟨b,2,none⟩ x2).setCell ⟨b,3,none⟩ x3).setCell ⟨b,4,none⟩ x4).setCell ⟨b,5,none⟩ x5).setCell ⟨b,6,none⟩ x6).setCell ⟨b,7,none⟩ x7).setCell ⟨b,8,none⟩ x8).setCell ⟨b,9,none⟩ x9).setCell ⟨b,10,none⟩ x10).setCell ⟨b,11,none⟩ x11
theorem Off.one{w w':World}{b o:Nat}{v:Value}(h:Off (fun k=>k=b) w w'):Off (fun k=>k=b) w (w'.setCell ⟨b,o,none⟩ v):=h.trans (Off.setCell (S:=fun k=>k=b) _ rfl)
theorem set12_off(w:World)(b:Nat)(x0 x1 x2 x3 x4 x5 x6 x7 x8 x9 x10 x11:Value):Off (fun k=>k=b) w (set12 w b x0 x1 x2 x3 x4 x5 x6 x7 x8 x9 x10 x11):=by
 unfold set12;exact(Off.refl _ _).one.one.one.one.one.one.one.one.one.one.one.one
theorem dY.cells{S:Nat->Prop}{g n:Nat}{f:Nat->Value}(hS:¬S g):dY S fun W=>∀j,j<n->W.cell? ⟨g,0+j,none⟩=some (f j):=fun _ _ ho hw j hj=>ho.cell hS (hw j hj)
theorem dY.map{S:Nat->Prop}{km n:Nat}{m:bA->Option Bool}(hS:¬S km):dY S fun w=>bR jQ fU w km n m:=fun _ _ ho h=>h.of_block (ho.block km h.lt hS)
theorem Mk.done{T:TypeId}{zero cells:Array Value}{p:Prs}{O S:Nat->Prop}{W wr w':World}{b5 q i0:Nat}{E:World->Prop}(h:Mk T zero p O S W b5 cells E q wr)(hW:p.At W i0)(ho:Off (fun b=>b=W.heap.size) wr w')(hE:dY (fun b=>b=W.heap.size) E):E w'/\p.At w' q/\Off O W w':=
 ⟨hE _ _ ho h.enc,hW.above h.at_ (ho.mono fun b hb=>by have hb:b=W.heap.size:=hb;omega),Off.fresh ((h.off.or _).trans (ho.mono fun b hb=>.inr (Nat.le_of_eq (Eq.symm hb)))) (Nat.le_refl _)⟩
end Go.Proofs.YtiionicikdnnpaaGreatDoor
namespace Go.Proofs.YtiionicikdnnpaaGreatDoor
open Go.RowKit
theorem fields_any(p:Prs)(most:Nat)(hmost:most<=8)(w:World)(i:Nat)(h:p.At w i):Calls Tryz.prog 121 #[.pointer (some ⟨p.pb,0,none⟩),.int .i64 (most:Int)] w
  (Ran p.S w (gK p.l most i) (RowV p 3 fH w i)):=by
 obtain⟨i0,xS,xN,sG,rU⟩:=info_parts fldInfo;have HW:=zh h;have AT:=@run_makeMap Tryz.prog;have qG:=h.len;have hg11:=h.glob.big;have LW:=zh (dK p w i aS h);have HR:Hid (gK p.l most i=(dD p.l i aS).bnd fun _ j=>if isP p.l j bQ then .ok ([],j+1) else cK p.l most (p.l.length+1) [] j):=zh rfl;clear h;go_enter Tryz.func121,Tryz.ntmps121;go_wp2_with(first|(go_at_call 120;refine(mN p w1 j bQ qP).mono ?_;rintro e w2 ⟨rfl,qY,pU⟩)|(go_at_call 110;refine LW.out.mono ?_;rintro e w1 (⟨x,hx,rfl,qE⟩|⟨⟨⟩,j,hx,⟨rfl,qP⟩,qE⟩)))
 ·exact RW
 ·exact QV
 rename_i hq;have hj:=(cX hx).1;rw[if_neg UJ] at qY;have sL:=zh (HR.out.trans ((PR.bnd_ok hx).trans (if_neg UJ)));have sG:=qE.size;have MD:=pU.size;have OF:Hid (GrL 3 105 fH p w [] [] (.slice none 0 0) j (w2.alloc (.map #[] 0))):=zh ⟨(qE.trans pU).trans (Ba (aB _ _)),Gro.first_at _ _ _ SX,qY.later (aB _ _)⟩;have HM0:Hid (bR jQ fU (w2.alloc (.map #[] 0)) w2.heap.size 0 (eN fun s=>([]:List Fld).any fun x=>decide (x.1=s))):=zh ((bR.made w2).ext fun _=>rfl);have MU:11<=w2.heap.size:=RY;have hkw:w.heap.size<=w2.heap.size:=RY;have HJ0:=zh hj;clear AT qE pU qP qY hx hq LW HR sG MD hj;generalize w2.heap.size=km at *;go_loopw [5] (fun v wr=>∃(a:Option Addr)(c q F:Nat)(fs:List Fld)(css:List (List Value)),v=.slice a fs.length c/\Hid (GrL 3 105 fH p w fs css v q wr)/\Hid (bR jQ fU wr km fs.length (eN fun s=>fs.any fun x=>decide (x.1=s)))/\Hid (gK p.l most i=cK p.l most (F+1) fs q)/\Hid (p.l.length<=F+q/\i<=q/\fs.length<=most)) (fun _ wr=>p.l.length-posOf wr p.pb)
 case atStart=>exact⟨none,0,j,p.l.length,[],[],rfl,OF,HM0,sL,zh ⟨RY,by have:=HJ0.out;omega,Nat.zero_le _⟩⟩
 case round=>
  obtain⟨a,c,q,F,fs,css,rfl,HL,HM,qI,HB⟩:=hrel;rename World=>wr
  have zF:=HB.out.1;have zE:=HB.out.2.1;have MK:fs.length<=8:=by have:=HB.out.2.2;omega
  have A2:=HL.out.at_.lt
  cases uO:cG p.l q with
  |false=>
   as_aux_lemma=>
    go_wp2_with(first|(go_at_call 114;refine(mU p w5 q km fs.length _ tU.out.at_ HM5.out MU RY).mono ?_;rintro e w6 (⟨x,hx,rfl,qR⟩|⟨s,j6,hx,⟨rfl,tG,hm6,EV⟩,qR⟩))|(go_at_call 182;refine(iC p wr q HL.out.at_).mono ?_;rintro e w5 ⟨rfl,hb5⟩;rw[uO];have tU:=zh (HL.out.next aT HW.out (Ba hb5) (HL.out.at_.later hb5));have HM5:=zh (HM.out.later hb5)))
    ·exact⟨rfl,Ran.bad' (by have e:=(freshP_noname uO).symm.trans hx;cases e;exact qI.out.trans (nU uO)) (off_S2 tU.out.off qR hkw)⟩
    rw[freshP_noname uO] at hx;cases hx
  |true=>
   as_aux_lemma=>
    go_wp2_with(first|(at_builtin;have O9:Off p.S w6 (((w7.setCell ⟨w6.heap.size,1,none⟩ (.int .i64 k)).setCell ⟨w6.heap.size,2,none⟩ (.slice sa sn sc)).alloc (cA s k sa sn sc)):=Off.fresh (((Ba (S:=p.S) (aB w6 (cA s 0 none 0 0))).trans qO).or w6.heap.size |>.trans (((Off.setCell (S:=fun b=>p.S b\/w6.heap.size<=b) w7 (.inr (Nat.le_refl _))).trans (Off.setCell (S:=fun b=>p.S b\/w6.heap.size<=b) _ (.inr (Nat.le_refl _)))).trans (Ba (aB _ _)))) (Nat.le_refl _);have A9:=zL.out.acc.stays aT (dC.of_off O9 fun b hb=>.inl TA);have sB:=A9.big;have sA:=A9.own;refine wpList_append_lies _ rfl _ _ 24 rfl w.heap.size 105 i0 (.agg #[.string ByteArray.empty,.int .i64 0,.slice none 0 0]) 3 48 Tryz.underlying24 xS xN sG rU rfl RY (.slice a fs.length c) fs.length css.flatten TH (by simpa using sA) ⟨w7.heap.size,0,none⟩ 1 1 [.string s,.int .i64 k,.slice sa sn sc] TH rfl (World.news_of_block (cs:=#[.string s,.int .i64 k,.slice sa sn sc]) (t:=105) (fr:=(0,0)) (by simpa using bY ((w7.setCell ⟨w6.heap.size,1,none⟩ (.int .i64 k)).setCell ⟨w6.heap.size,2,none⟩ (.slice sa sn sc)) (cA s k sa sn sc))) SG RY SH RY (by simpa using sB) (w7.heap.size+1) R2 ?_)|(go_at_call 115;refine(typed_any p (w6.alloc (cA s 0 none 0 0)) j6 (tG.later (aB _ _))).mono ?_;rintro e w7 (⟨x2,qB,rfl,qO⟩|⟨t,j2,qB,⟨k,sa,sn,sc,rfl,sT,rX,JR⟩,qO⟩)<;>have EX:=zh (qO.heap (fun e=>UC) (bY w6 (cA s 0 none 0 0)))<;>obtain⟨d0,d1,d2,e0,e1,e2⟩:=bxT3 EX.out)|(go_at_call 114;refine(mU p w5 q km fs.length _ tU.out.at_ HM5.out MU RY).mono ?_;rintro e w6 (⟨x,hx,rfl,qR⟩|⟨s,j6,hx,⟨rfl,tG,hm6,EV⟩,qR⟩)<;>first|(have zL:=zh (tU.out.fresh aT HW.out (gU.of HM5.out) hkw qR tG))|skip)|(go_at_call 49;refine(fZ p w5 q _ _ tU.out.at_).mono ?_;rintro e w5' (⟨CZ,rfl,rfl⟩|⟨CZ,rfl,JX⟩))|(go_at_call 182;refine(iC p wr q HL.out.at_).mono ?_;rintro e w5 ⟨rfl,hb5⟩;rw[uO];have tU:=zh (HL.out.next aT HW.out (Ba hb5) (HL.out.at_.later hb5));have HM5:=zh (HM.out.later hb5)))
    ·(have EA:fs.length<most:=by simp at CZ;omega);exact⟨rfl,Ran.bad' (qI.out.trans ((kN uO EA).trans (PR.bnd_bad hx))) (off_S2 tU.out.off qR hkw)⟩
    ·(have EA:fs.length<most:=by simp at CZ;omega);exact⟨rfl,Ran.bad' (qI.out.trans ((kN uO EA).trans ((PR.bnd_ok hx).trans (PR.bnd_bad qB)))) (zL.out.off.trans ((Ba (aB _ _)).trans qO))⟩
    ·(have EA:fs.length<most:=by simp at CZ;omega);intro g' cap' rB pR pM qV _;obtain⟨AK,LG,hf10,xY⟩:=zL.out.field HW.out qO rX sT EV pR rfl pM qV;obtain⟨q0,q1,q2,r0,r1,r2⟩:=bxT3 hf10;have sU:=zh AK;have hm7:=map_off (tG.later (aB _ _)) (hm6.later (aB w6 (cA s 0 none 0 0))) qO
     have HM10:=zh ((hm7.of_block (xY.block km hm7.lt (by
      rintro(e|e)
      ·have:=hm6.lt;omega
      exact zL.out.acc.nemap (gU.of hm6) e))).ext fun z=>congrFun (any_push fs s t) z)
     have hj6:=pE hx;have uJ:=zh (qI.out.trans ((kN uO EA).trans ((PR.bnd_ok hx).trans (PR.bnd_ok qB))));have HMr:=zh (more_any p rB j2 _ t k _ bQ AK.at_ LG (by have:=lF qB;omega));have HJ:Hid (i<=j2):=zh RY;clear pR pM qV AK LG hf10 xY hm7 sT rX qO EX O9 A9 sB sA d0 d1 d2 e0 e1 e2 hx qB tU HM5 zL hm6 tG qR;go_wp2_with(go_at_call 184;refine HMr.out.mono ?_;rintro e rD (⟨x3,qF,rfl,qU⟩|⟨bb,j3,qF,⟨rfl,rO⟩,qU⟩))
     ·exact⟨rfl,Ran.bad' (uJ.out.trans (PR.bnd_bad qF)) (sU.out.off.trans qU)⟩
     ·rename_i qQ;subst qQ;have hR:=uJ.out.trans ((PR.bnd_ok qF).trans (if_pos rfl));have MW:=oZ qF;have wA:=zh (sU.out.next aT HW.out qU rO);go_ret;exact Ran.good hR ⟨_,_,_,rfl,by simpa using wA.out.acc.row aT,rO,by have:=HJ.out;omega⟩ wA.out.off
     rename_i qQ;subst qQ;have hR:=uJ.out.trans ((PR.bnd_ok qF).trans (if_neg R2));have MW:=oZ qF;have wA:=zh (sU.out.next aT HW.out qU rO);have AQ:=zh (map_off sU.out.at_ HM10.out qU);have K9:=rO.lt;have zT:=HJ.out;obtain⟨F',tQ⟩:∃F',F=F'+1:=⟨F-1,RY⟩;have HR':=zh hR;have HLm:=zh EA;clear hR EA rO qU qF;go_roundw
     case rel=>
      subst tQ;exact⟨some ⟨g',0,none⟩,cap',j3,F',fs++[(s,t)],_,R2,wA,by simpa using AQ,HR',zh ⟨RY,RY,by have:=HLm.out;simp;omega⟩⟩
     case measure=>
      rw[wA.out.at_.pos,HL.out.at_.pos];omega
    (have EA:¬fs.length<most:=by simp at CZ;omega);exact⟨rfl,Ran.bad (qI.out.trans (fieldsFrom_full uO EA)) (tU.out.off.trans (Ba JX))⟩
theorem PE{p:Prop}(h:p:=by
 refine hK.out _ _ trivial (fun hS=>?_);clear hK K;refine zt 4 (.int .i64 ((en:Int)+2 ^ kk)) rfl (fun W hW=>by go_simp;exact bits_or qA M3) ?_;refine zq 5 (.pointer (some ⟨b5,5,none⟩)) rfl ?_;try simp only[zn]
 refine zr 6 rfl (fun K hK=>?_);try simp only[z1,z2,z3]
 obtain⟨⟨c0,c1,c2,c3,c4,c5,c6,c7,c8,c9,zY,zX⟩,f0,f1,f2,f3,f4,f5,f6,f7,f8,f9,zW,zV⟩:=eD tR.out.loc;go_simp;clear c0 c1 c2 c3 c4 c5 c6 c7 c8 c9 zY zX f0 f1 f2 f3 f4 f5 f6 f7 f8 f9 zW zV;refine hK.out _ _ trivial (fun hS=>?_);clear hK K;try simp only[zn]
 refine wpAnyH_done RZ ?_ _;clear hS;have uW:Hid (Mk 47 kP p (p.S2 km) p.S w b5 #[.string nm,.bool pub,.slice pa pn pc,.int .i64 k,.slice sa sn sc,.int .i64 ((en+2 ^ kk:Nat):Int),.int .i64 0,.int .i64 0,.string ⟨#[]⟩,.string ⟨#[]⟩,.slice none 0 0,.slice none 0 0] (fun W=>(((True/\(fun W=>bR jQ fU W km (n+1) (eN fun z=>decide (z=nm)||known z)) W)/\(fun W=>aO 3 fH (fun b=>w.heap.size<b/\b≠b5/\b≠km) W (.slice pa pn pc) ps) W)/\(fun W=>gB (fun b=>w.heap.size<b/\b≠b5/\b≠km) W t [.int .i64 k,.slice sa sn sc]) W)/\(fun W=>∀j,j<bG.length->W.cell? ⟨g,0+j,none⟩=some (.string (bG.getD j ByteArray.empty))) W) (q+1) (zP.setCell ⟨b5,5,none⟩ (.int .i64 ((en:Int)+2 ^ kk)))):=zh (tR.out.put HW.out (Off.setCell (S:=fun b=>b=b5) zP rfl) (by rw[aU tR.out.loc,pow_cast];rfl));have vY:Hid (dF p.l cD 0 ES=dF p.l (cD.drop (kk+1)) ((en+2 ^ kk:Nat):Int) (q+1)):=zh (by rw[qI.out,DV.out,hq,IS.out,if_pos rfl];rfl);have HJ2:Hid (ES<=q+1):=zh (by have:=HJ.out;omega);have EP:Hid (en+2 ^ kk<2 ^ (kk+1)):=zh (by rw[Nat.pow_succ];omega);generalize zP.setCell ⟨b5,5,none⟩ (.int .i64 ((en:Int)+2 ^ kk))=E4 at *;go_wp2_with fail;go_roundw;case rel=>exact⟨kk+1,q+1,en+2 ^ kk,RY,SK,EP,uW,vY,HJ2⟩
 case measure=>simp[intOf];omega):p:=h
theorem QL{p:Prop}(h:p:=by
 exact Ran.good (H8.out.trans (PR.bnd_ok CQ)) ⟨pa,pn,pc,k,sa,sn,sc,op,n1,s1,m1,a1,m2,qa,a2,m3,qb,rfl,bD.wide ⟨_,_,_,_,_,_,_,_,_,rfl,sV,rQ,MF,AH⟩ (fun b hb _=>Nat.le_of_lt hb.1),qV,by have:=HIq.out;omega,MQ⟩ CU):p:=h
def FnV(p:Prs)(w:World)(km n:Nat)(known:bA->Bool)(i:Nat)(f:Fnc)(j:Nat)(e:Ending)(w':World):Prop:=
 ∃pa pn pc k sa sn sc op n1 s1 m1 a1 m2 c1 a2 m3 c2,e=.returned (oBx10 f.name f.pub pa pn pc k sa sn sc f.effects op n1 s1 m1 a1 m2 c1 a2 m3 c2)/\
  iU (bO w.heap.size) w' f [.string f.name,.bool f.pub,.slice pa pn pc,.int .i64 k,.slice sa sn sc,.int .i64 f.effects,.int .i64 op,.int .i64 n1,.string s1,.string m1,.slice a1 m2 c1,.slice a2 m3 c2]/\p.At w' j/\i<j/\bR jQ fU w' km (n+1) (eN fun z=>decide (z=f.name)||known z)
theorem effectL_at{l:List Tok}{k:Nat}(hk:k<4){n:Int}{q:Nat}:dF l (cD.drop k) n q=if isP l q (bG.getD k ByteArray.empty) then dF l (cD.drop (k+1)) (n+bN (bG.getD k ByteArray.empty)) (q+1) else dF l (cD.drop (k+1)) n q:=by
 match k,hk with
 |0,_=>rfl
 |1,_=>rfl
 |2,_=>rfl
 |3,_=>rfl
section
variable {l:List Tok} {i j q:Nat} {fits:Bool} {en:Int}
theorem bang_no(h:isP l i hM=false):lC l i fits=.ok ((0,fits),i):=by unfold lC;rw[if_neg (by rw[h];simp)]
theorem bang_bad(h:isP l i hM=true){x:Int×Int}(he:kL l i fits hM=.error x):lC l i fits=.error x:=by unfold lC;rw[if_pos h,he];rfl
theorem bang_yes(h:isP l i hM=true)(he:kL l i fits hM=.ok ((),j))(hf:dF l cD 0 j=(en,q))(hn:¬en=0):lC l i fits=.ok ((en,true),q):=by unfold lC;rw[if_pos h,he];simp only[PR.bnd,hf];rw[if_pos hn]
theorem bang_zero(h:isP l i hM=true)(he:kL l i fits hM=.ok ((),j))(hf:dF l cD 0 j=(en,q))(hn:en=0):lC l i fits=.error ((aI l q).pos,11):=by unfold lC;rw[if_pos h,he];simp only[PR.bnd,hf];rw[if_neg (by simp[hn])];rfl
end
theorem bit_pow{k:Nat}(hk:k<4):bN (bG.getD k ByteArray.empty)=((2 ^ k:Nat):Int):=by
 match k,hk with
 |0,_=>rfl
 |1,_=>rfl
 |2,_=>rfl
 |3,_=>rfl
theorem pow_cast(en k:Nat):((en+2 ^ k:Nat):Int)=(en:Int)+2 ^ k:=R2
theorem bits_or{k en:Nat}(hk:k<4)(he:en<2 ^ k):bits BinOp.or IntKind.i64 (en:Int) (2 ^ k)=(en:Int)+2 ^ k:=by
 match k,hk with
 |0,_=>match en,he with|0,_=>decide
 |1,_=>match en,he with|0,_=>decide|1,_=>decide
 |2,_=>match en,he with|0,_=>decide|1,_=>decide|2,_=>decide|3,_=>decide
 |3,_=>match en,he with|0,_=>decide|1,_=>decide|2,_=>decide|3,_=>decide|4,_=>decide|5,_=>decide|6,_=>decide|7,_=>decide
theorem function_any(p:Prs)(hX:ExpAll p)(w:World)(i km n:Nat)(known:bA->Bool)(h:p.At w i)(hm:bR jQ fU w km n (eN known))(hk:11<=km)(hn:n<1000000):
  Calls Tryz.prog 119 #[.pointer (some ⟨p.pb,0,none⟩),.map (some km)] w (Ran (p.S2 km) w (gW p.l i known) (FnV p w km n known i)):=by
 have HW:=zh h;have HX:=zh hX;have HM0:=zh hm;have qG:=h.len;have hkm:km<w.heap.size:=hm.lt;have tY:=h.blt;have FO:=(h.nemap (gU.of hm)).1;have LE:i<=(if isP p.l i kF=true then i+1 else i):=by split<;>omega
 have HR:Hid (gW p.l i known=(dD p.l (if isP p.l i kF=true then i+1 else i) kFn).bnd fun _ j=>(fO p.l j known).bnd fun name j2=>(gK p.l 6 j2).bnd fun ps j3=>(iW p.l j3).bnd fun t j4=>(lC p.l j4 (decide (aZ t<=4))).bnd fun ef j5=>
  (kL p.l j5 ef.2 kEq).bnd fun _ j6=>(iM p.l j6 dB).bnd fun e j7=>.ok (⟨name,isP p.l i kF,ps,t,ef.1,e⟩,j7)):=zh rfl
 clear h hX hm;go_enter Tryz.func119,Tryz.ntmps119;go_wp2_with(go_at_call 120;refine(mN p (w.alloc (.cells kP 47)) i kF (HW.out.later (aB _ _))).mono ?_;rintro e w2 ⟨rfl,qY,pU⟩);have rU:=pU.size;have sG:(w.alloc (.cells kP 47)).heap.size=w.heap.size+1:=R2;generalize (if isP p.l i kF=true then i+1 else i)=i1 at *;generalize isP p.l i kF=pub at *;have xW:Hid (Mk 47 kP p (p.S2 km) (p.S2 km) w w2.heap.size #[.string ⟨#[]⟩,.bool pub,.slice none 0 0,.int .i64 0,.slice none 0 0,.int .i64 0,.int .i64 0,.int .i64 0,.string ⟨#[]⟩,.string ⟨#[]⟩,.slice none 0 0,.slice none 0 0] (fun _=>True) i1 (w2.alloc (gH ⟨#[]⟩ pub none 0 0 0 none 0 0 0 0 0 ⟨#[]⟩ ⟨#[]⟩ none 0 0 none 0 0))):=zh ⟨((Ba (aB w (.cells kP 47))).trans ((pU.mono fun _ hb=>.inl hb).trans (Ba (aB w2 _)))),aC (aB w2 _) (pU.heap (by show ¬w.heap.size=p.pb;omega) (bY w (.cells kP 47))),bY w2 _,qY.later (aB w2 _),trivial,dY.true,RY,fun b hb=>.inl hb,fun e=>R7,fun e=>R7,.inl rfl⟩;have HM3:Hid (bR jQ fU (w2.alloc (gH ⟨#[]⟩ pub none 0 0 0 none 0 0 0 0 0 ⟨#[]⟩ ⟨#[]⟩ none 0 0 none 0 0)) km n (eN known)):=zh ((map_off (HW.out.later (aB _ _)) (HM0.out.later (aB w (.cells kP 47))) pU).later (aB w2 _));have hb5w:w.heap.size<w2.heap.size:=RY;clear qY pU HM0;generalize w2.heap.size=b5 at *;generalize w2.alloc (gH ⟨#[]⟩ pub none 0 0 0 none 0 0 0 0 0 ⟨#[]⟩ ⟨#[]⟩ none 0 0 none 0 0)=w3 at *;have JQ:¬km=b5:=RY;have hnb6:¬b5=km:=RY;clear sG rU;go_wp2_with(go_at_call 110;refine(dK p w3 i1 kFn xW.out.at_).mono ?_;rintro e w4 (⟨x4,qX,rfl,qD⟩|⟨⟨⟩,i4,qX,⟨rfl,rR⟩,qD⟩))
 ·exact⟨rfl,Ran.bad' (HR.out.trans (PR.bnd_bad qX)) (xW.out.off.trans (qD.mono fun _ h=>.inl h))⟩
 have vJ:=zh (xW.out.nextP qD rR);have HM4:=zh (map_off xW.out.at_ HM3.out qD);have HR4:=zh (HR.out.trans (PR.bnd_ok qX));have hi4:=(cX qX).1;have OH:Hid (i<i4):=zh RY;clear qX qD rR xW HM3 HR hi4 LE;go_wp2_with(go_at_call 114;refine(mU p w4 i4 km n known vJ.out.at_ HM4.out hk hn).mono ?_;rintro e w5 (⟨x5,rF,rfl,qM⟩|⟨nm,i5,rF,⟨rfl,sN,hm5,sV⟩,qM⟩)<;>first|(have tU:=zh (vJ.out.next qM sN);obtain⟨⟨c0,c1,c2,c3,c4,c5,c6,c7,c8,c9,zY,zX⟩,f0,f1,f2,f3,f4,f5,f6,f7,f8,f9,zW,zV⟩:=eD tU.out.loc)|skip)
 ·exact⟨rfl,Ran.bad' (HR4.out.trans (PR.bnd_bad rF)) (vJ.out.off.trans qM)⟩
 have HR5:=zh (HR4.out.trans (PR.bnd_ok rF));have hi5:=pE rF;have HI5:Hid (i<i5):=zh (by have:=OH.out;omega);clear c0 c1 c2 c3 c4 c5 c6 c7 c8 c9 zY zX f0 f1 f2 f3 f4 f5 f6 f7 f8 f9 zW zV;have KI:Hid (Mk 47 kP p (p.S2 km) p.S w b5 #[.string nm,.bool pub,.slice none 0 0,.int .i64 0,.slice none 0 0,.int .i64 0,.int .i64 0,.int .i64 0,.string ⟨#[]⟩,.string ⟨#[]⟩,.slice none 0 0,.slice none 0 0] (fun W=>True/\(fun W=>bR jQ fU W km (n+1) (eN fun z=>decide (z=nm)||known z)) W) i5 (w5.setCell ⟨b5,0,none⟩ (.string nm))):=zh ((((tU.out.put HW.out (cells':=#[.string nm,.bool pub,.slice none 0 0,.int .i64 0,.slice none 0 0,.int .i64 0,.int .i64 0,.int .i64 0,.string ⟨#[]⟩,.string ⟨#[]⟩,.slice none 0 0,.slice none 0 0]) (Off.setCell (S:=fun b=>b=b5) w5 rfl) (by rw[aU tU.out.loc];rfl)).shrink (S':=p.S) (fun b hb=>.inl hb) rfl)).add (F:=(fun W=>bR jQ fU W km (n+1) (eN fun z=>decide (z=nm)||known z))) (hm5.setCell JQ _) (dY.map (fun e=>Or.elim e FO JQ)));clear rF qM sN hm5 vJ HM4 HR4 tU hi5 OH;generalize w5.setCell ⟨b5,0,none⟩ (.string nm)=w5' at *;go_wp2_with(go_at_call 121;refine(fields_any p 6 R0 w5' i5 KI.out.at_).mono ?_;rintro e w6 (⟨x6,tD,rfl,qR⟩|⟨ps,i6,tD,⟨pa,pn,pc,rfl,hps,tG,MY⟩,qR⟩)<;>first|(have zL:=zh (KI.out.nextP qR tG);obtain⟨⟨c0,c1,c2,c3,c4,c5,c6,c7,c8,c9,zY,zX⟩,f0,f1,f2,f3,f4,f5,f6,f7,f8,f9,zW,zV⟩:=eD zL.out.loc)|skip)
 ·exact⟨rfl,Ran.bad' (HR5.out.trans (PR.bnd_bad tD)) (KI.out.off.trans (qR.mono fun _ h=>.inl h))⟩
 have HR6:=zh (HR5.out.trans (PR.bnd_ok tD));have HI6:Hid (i<i6):=zh (by have:=HI5.out;omega);clear c0 c1 c2 c3 c4 c5 c6 c7 c8 c9 zY zX f0 f1 f2 f3 f4 f5 f6 f7 f8 f9 zW zV;have hF6:aO 3 fH (fun b=>w.heap.size<b/\b≠b5/\b≠km) w6 (.slice pa pn pc) ps:=hps.moves aT (fun b hb _=>⟨by have hb:w5'.heap.size<=b:=hb;have:=KI.out.lt;exact⟨RY,RY,RY⟩,fun _ _ h=>h⟩) R0;have LY:Hid (Mk 47 kP p (p.S2 km) p.S w b5 #[.string nm,.bool pub,.slice pa pn pc,.int .i64 0,.slice none 0 0,.int .i64 0,.int .i64 0,.int .i64 0,.string ⟨#[]⟩,.string ⟨#[]⟩,.slice none 0 0,.slice none 0 0] (fun W=>(True/\(fun W=>bR jQ fU W km (n+1) (eN fun z=>decide (z=nm)||known z)) W)/\(fun W=>aO 3 fH (fun b=>w.heap.size<b/\b≠b5/\b≠km) W (.slice pa pn pc) ps) W) i6 (w6.setCell ⟨b5,2,none⟩ (.slice pa pn pc))):=zh ((zL.out.add (F:=(fun W=>aO 3 fH (fun b=>w.heap.size<b/\b≠b5/\b≠km) W (.slice pa pn pc) ps)) hF6 (dY.row aT R0 (stbl_S fun b hb=>⟨fun e=>by have:=hb.1;omega,hb.2.1⟩))).put HW.out (cells':=#[.string nm,.bool pub,.slice pa pn pc,.int .i64 0,.slice none 0 0,.int .i64 0,.int .i64 0,.int .i64 0,.string ⟨#[]⟩,.string ⟨#[]⟩,.slice none 0 0,.slice none 0 0]) (Off.setCell (S:=fun b=>b=b5) w6 rfl) (by rw[aU zL.out.loc];rfl));clear tD qR tG hps hF6 HR5 zL HI5 MY KI;generalize w6.setCell ⟨b5,2,none⟩ (.slice pa pn pc)=w6' at *;go_wp2_with(go_at_call 115;refine(typed_any p w6' i6 LY.out.at_).mono ?_;rintro e w7 (⟨x7,rJ,rfl,qO⟩|⟨t,i7,rJ,⟨k,sa,sn,sc,rfl,sT,rX,JR⟩,qO⟩)<;>first|(have L5:=zh (LY.out.nextP qO rX);obtain⟨⟨c0,c1,c2,c3,c4,c5,c6,c7,c8,c9,zY,zX⟩,f0,f1,f2,f3,f4,f5,f6,f7,f8,f9,zW,zV⟩:=eD L5.out.loc)|skip)
 ·exact⟨rfl,Ran.bad' (HR6.out.trans (PR.bnd_bad rJ)) (LY.out.off.trans (qO.mono fun _ h=>.inl h))⟩
 have NY:=zh (HR6.out.trans (PR.bnd_ok rJ));have HI7:Hid (i<i7):=zh (by have:=HI6.out;omega);have HLv:Hid (aZ t<=9000000000000000000):=zh (by have:=lF rJ;omega);have hF7:gB (fun b=>w.heap.size<b/\b≠b5/\b≠km) w7 t [.int .i64 k,.slice sa sn sc]:=dM.wide sT (fun b hb _=>by have hb:w6'.heap.size<=b:=hb;have:=LY.out.lt;exact⟨RY,RY,RY⟩);clear c0 c1 c2 c3 c4 c5 c6 c7 c8 c9 zY zX f0 f1 f2 f3 f4 f5 f6 f7 f8 f9 zW zV;have H3:Hid (Mk 47 kP p (p.S2 km) p.S w b5 #[.string nm,.bool pub,.slice pa pn pc,.int .i64 k,.slice sa sn sc,.int .i64 0,.int .i64 0,.int .i64 0,.string ⟨#[]⟩,.string ⟨#[]⟩,.slice none 0 0,.slice none 0 0] (fun W=>((True/\(fun W=>bR jQ fU W km (n+1) (eN fun z=>decide (z=nm)||known z)) W)/\(fun W=>aO 3 fH (fun b=>w.heap.size<b/\b≠b5/\b≠km) W (.slice pa pn pc) ps) W)/\(fun W=>gB (fun b=>w.heap.size<b/\b≠b5/\b≠km) W t [.int .i64 k,.slice sa sn sc]) W) i7 ((w7.setCell ⟨b5,3,none⟩ (.int .i64 k)).setCell ⟨b5,4,none⟩ (.slice sa sn sc))):=zh ((L5.out.add (F:=(fun W=>gB (fun b=>w.heap.size<b/\b≠b5/\b≠km) W t [.int .i64 k,.slice sa sn sc])) hF7 (dY.enc dM (stbl_S fun b hb=>⟨fun e=>by have:=hb.1;omega,hb.2.1⟩))).put HW.out (cells':=#[.string nm,.bool pub,.slice pa pn pc,.int .i64 k,.slice sa sn sc,.int .i64 0,.int .i64 0,.int .i64 0,.string ⟨#[]⟩,.string ⟨#[]⟩,.slice none 0 0,.slice none 0 0]) ((Off.refl (fun b=>b=b5) w7).one.one) (by rw[aU (aU L5.out.loc _) _];rfl));obtain⟨⟨c0,c1,c2,c3,c4,c5,c6,c7,c8,c9,zY,zX⟩,f0,f1,f2,f3,f4,f5,f6,f7,f8,f9,zW,zV⟩:=eD L5.out.loc;clear rJ qO rX sT hF7 HR6 HI6 JR LY;go_wp2_with(go_at_call 117;refine(levels_any _ t _ k _ _ (Nat.le_refl _) HLv.out H3.out.enc.2).mono ?_;rintro e w8 ⟨rfl,qS⟩);clear c0 c1 c2 c3 c4 c5 c6 c7 c8 c9 zY zX f0 f1 f2 f3 f4 f5 f6 f7 f8 f9 zW zV;have EK:=zh (H3.out.below qS);have HD:Hid (decide ((aZ t:Int)<=4)=decide (aZ t<=4)):=zh SP;skip
 cases hb:isP p.l i7 hM with
 |false=>
  skip;go_wp2_with(go_at_call 112;refine(gJ p w8 i7 hM EK.out.at_).mono ?_;rintro e w9 ⟨rfl,rG⟩;rw[hb]);have CH:=zh (EK.out.below rG);have HIq:=HI7;have NX:=zh (NY.out.trans (PR.bnd_ok (bang_no hb)));go_wp2_with(go_at_call 116;refine(end_any p w9 i7 _ kEq CH.out.at_).mono ?_;rintro e w20 (⟨x20,wX,rfl,AF⟩|⟨⟨⟩,i20,wX,⟨rfl,GQ⟩,AF⟩))
  ·rw[HD.out] at wX;exact⟨rfl,Ran.bad' (NX.out.trans (PR.bnd_bad wX)) (CH.out.off.trans (AF.mono fun _ h=>.inl h))⟩
  rw[HD.out] at wX;have AO:=zh (CH.out.nextP AF GQ);have H8:=zh (NX.out.trans (PR.bnd_ok wX));have hi20:=endP_ok wX;clear wX AF GQ;go_wp2_with(go_at_call 118;refine(mP p HX.out w20 i20 dB AO.out.at_).mono ?_;rintro e JF (⟨x21,CQ,rfl,CV⟩|⟨x,i21,CQ,⟨⟨op,n1,s1,m1,a1,m2,qa,a2,m3,qb,rfl,hex⟩,NA,hij21⟩,CV⟩)<;>first|(have vZ:=zh (AO.out.nextP CV NA);obtain⟨⟨c0,c1,c2,c3,c4,c5,c6,c7,c8,c9,zY,zX⟩,f0,f1,f2,f3,f4,f5,f6,f7,f8,f9,zW,zV⟩:=eD vZ.out.loc;obtain⟨⟨r0,r1,r2,r3,r4,r5,r6,r7,r8,r9,wT,wS⟩,g0,g1,g2,g3,g4,g5,g6,g7,g8,g9,g10,g11⟩:=eD vZ.out.res)|skip)
  ·exact⟨rfl,Ran.bad' (H8.out.trans (PR.bnd_bad CQ)) (AO.out.off.trans (CV.mono fun _ h=>.inl h))⟩
  have NF:(fun W=>bJ (fun b=>w.heap.size<b/\b≠b5/\b≠km) W x [.int .i64 op,.int .i64 n1,.string s1,.string m1,.slice a1 m2 qa,.slice a2 m3 qb]) JF:=aH.wide hex (fun b hb _=>UL);have yQ:Mk 47 kP p (p.S2 km) p.S w b5 #[.string nm,.bool pub,.slice pa pn pc,.int .i64 k,.slice sa sn sc,.int .i64 0,.int .i64 op,.int .i64 n1,.string s1,.string m1,.slice a1 m2 qa,.slice a2 m3 qb] (fun W=>(fun W=>((True/\(fun W=>bR jQ fU W km (n+1) (eN fun z=>decide (z=nm)||known z)) W)/\(fun W=>aO 3 fH (fun b=>w.heap.size<b/\b≠b5/\b≠km) W (.slice pa pn pc) ps) W)/\(fun W=>gB (fun b=>w.heap.size<b/\b≠b5/\b≠km) W t [.int .i64 k,.slice sa sn sc]) W) W/\(fun W=>bJ (fun b=>w.heap.size<b/\b≠b5/\b≠km) W x [.int .i64 op,.int .i64 n1,.string s1,.string m1,.slice a1 m2 qa,.slice a2 m3 qb]) W) i21 ((((((JF.setCell ⟨b5,6,none⟩ (.int .i64 op)).setCell ⟨b5,7,none⟩ (.int .i64 n1)).setCell ⟨b5,8,none⟩ (.string s1)).setCell ⟨b5,9,none⟩ (.string m1)).setCell ⟨b5,10,none⟩ (.slice a1 m2 qa)).setCell ⟨b5,11,none⟩ (.slice a2 m3 qb)):=(vZ.out.add (F:=(fun W=>bJ (fun b=>w.heap.size<b/\b≠b5/\b≠km) W x [.int .i64 op,.int .i64 n1,.string s1,.string m1,.slice a1 m2 qa,.slice a2 m3 qb])) NF (dY.enc aH (stbl_S fun b hb=>⟨fun e=>by have:=hb.1;omega,hb.2.1⟩))).put HW.out ((Off.refl (fun b=>b=b5) JF).one.one.one.one.one.one) (by rw[aU (aU (aU (aU (aU (aU vZ.out.loc _) _) _) _) _) _];rfl);have BJ:∀b,b=w.heap.size->¬(fun b=>w.heap.size<b/\b≠b5/\b≠km) b:=fun b hb hn=>by have:=hn.1;omega
  have hD:=yQ.done HW.out (set12_off _ w.heap.size (.string nm) (.bool pub) (.slice pa pn pc) (.int .i64 k) (.slice sa sn sc) (.int .i64 0) (.int .i64 op) (.int .i64 n1) (.string s1) (.string m1) (.slice a1 m2 qa) (.slice a2 m3 qb)) ((((dY.true.and (dY.map RY)).and (dY.row aT R0 BJ)).and (dY.enc dM BJ)).and (dY.enc aH BJ));unfold set12 at hD;refine bodyPost_ret (v:=oBx10 nm pub pa pn pc k sa sn sc 0 op n1 s1 m1 a1 m2 qa a2 m3 qb) UT rfl ?_;obtain⟨⟨⟨⟨⟨-,MQ⟩,rQ⟩,MF⟩,AH⟩,qV,CU⟩:=hD;exact QL
 |true=>
  go_wp2_with(go_at_call 112;refine(gJ p w8 i7 hM EK.out.at_).mono ?_;rintro e w9 ⟨rfl,rG⟩;rw[hb]);have CH:=zh (EK.out.below rG);clear rG EK;go_wp2_with(go_at_call 116;refine(end_any p w9 i7 _ hM CH.out.at_).mono ?_;rintro e rB (⟨x10,tV,rfl,tL⟩|⟨⟨⟩,ES,tV,⟨rfl,vW⟩,tL⟩))
  ·rw[HD.out] at tV;exact⟨rfl,Ran.bad' (NY.out.trans (PR.bnd_bad (bang_bad hb tV))) (CH.out.off.trans (tL.mono fun _ h=>.inl h))⟩
  rw[HD.out] at tV;have KB:=zh tV;have KL:=zh (CH.out.nextP tL vW);have hi10:=endP_ok tV;have HI10:Hid (i<ES):=zh (by have:=HI7.out;omega);have HJ0:Hid (i7<ES):=zh RY;clear vW tL tV CH hi10;go_wp2_with(go_at_call 153;refine(fieldsEff rB KL.out.at_.spc).mono ?_;rintro e uC ⟨rfl,rfl⟩);have hb510:=KL.out.lt;have HS11:Hid (Mk 47 kP p (p.S2 km) p.S w b5 #[.string nm,.bool pub,.slice pa pn pc,.int .i64 k,.slice sa sn sc,.int .i64 0,.int .i64 0,.int .i64 0,.string ⟨#[]⟩,.string ⟨#[]⟩,.slice none 0 0,.slice none 0 0] (fun W=>(((True/\(fun W=>bR jQ fU W km (n+1) (eN fun z=>decide (z=nm)||known z)) W)/\(fun W=>aO 3 fH (fun b=>w.heap.size<b/\b≠b5/\b≠km) W (.slice pa pn pc) ps) W)/\(fun W=>gB (fun b=>w.heap.size<b/\b≠b5/\b≠km) W t [.int .i64 k,.slice sa sn sc]) W)/\(fun W=>∀j,j<bG.length->W.cell? ⟨rB.heap.size,0+j,none⟩=some (.string (bG.getD j ByteArray.empty))) W) ES (rB.alloc (.cells #[.string nK,.string kNet,.string nL,.string jR] 9))):=zh ((KL.out.below (aB rB (.cells (bG.map Value.string).toArray 9))).add (F:=(fun W=>∀j,j<bG.length->W.cell? ⟨rB.heap.size,0+j,none⟩=some (.string (bG.getD j ByteArray.empty)))) (effCells rB) (dY.cells (fun e=>Or.elim e (fun e=>by have e:rB.heap.size=p.pb:=e;omega) (fun e=>RY))));generalize rB.alloc (.cells #[.string nK,.string kNet,.string nL,.string jR] 9)=uC at *;generalize rB.heap.size=g at *;clear KL;go_loopw [35] (fun c wr=>∃(kk q en:Nat),kk<=4/\c=.int .i64 (kk:Int)/\Hid (en<2 ^ kk)/\Hid (Mk 47 kP p (p.S2 km) p.S w b5 #[.string nm,.bool pub,.slice pa pn pc,.int .i64 k,.slice sa sn sc,.int .i64 (en:Int),.int .i64 0,.int .i64 0,.string ⟨#[]⟩,.string ⟨#[]⟩,.slice none 0 0,.slice none 0 0] (fun W=>(((True/\(fun W=>bR jQ fU W km (n+1) (eN fun z=>decide (z=nm)||known z)) W)/\(fun W=>aO 3 fH (fun b=>w.heap.size<b/\b≠b5/\b≠km) W (.slice pa pn pc) ps) W)/\(fun W=>gB (fun b=>w.heap.size<b/\b≠b5/\b≠km) W t [.int .i64 k,.slice sa sn sc]) W)/\(fun W=>∀j,j<bG.length->W.cell? ⟨g,0+j,none⟩=some (.string (bG.getD j ByteArray.empty))) W) q wr)/\Hid (dF p.l cD 0 ES=dF p.l (cD.drop kk) (en:Int) q)/\Hid (ES<=q)) (fun c _=>4-(intOf c).toNat)
  case atStart=>exact⟨0,ES,0,RY,rfl,zh R0,by simpa using HS11,zh rfl,zh (Nat.le_refl _)⟩
  case round=>
   obtain⟨kk,q,en,hk4,rfl,HEn,HS,qI,HJ⟩:=hrel;(rename World=>wr);have hen0:=HEn.out;by_cases qA:kk<4
   ·have hc:=HS.out.enc.2 kk qA;rw[Nat.zero_add] at hc;have DV:=zh (effectL_at (l:=p.l) (n:=(en:Int)) (q:=q) qA);have IS:=zh (bit_pow qA);generalize bG.getD kk ByteArray.empty=word at hc DV IS
    cases hq:isP p.l q word with
    |true=>
     ·skip;have M3:=HEn.out;clear hen0;go_wp2_with(go_at_call 120;refine(fY p wr q word HS.out.at_ hq).mono ?_;rintro e tB ⟨rfl,GS,FM⟩);have DE:=zh (HS.out.nextP FM GS);clear GS FM hc;refine wp_region_held_drew (S:=(fun _=>True)) RZ trivial fun hS=>?_;refine zq 0 (.pointer (some ⟨b5,5,none⟩)) rfl ?_;refine zq 2 (.string word) rfl ?_;(try simp only[zn]);refine wpAnyH_ready (rs:=[1,3]) RZ R2 ?_;refine AllReadyH.cons rfl (fun K hK=>?_) (AllReadyH.cons rfl (fun K hK=>?_) AllReadyH.nil)
      ·rw[if_pos RZ];(try simp only[z1,z2,z3]);obtain⟨⟨c0,c1,c2,c3,c4,c5,c6,c7,c8,c9,zY,zX⟩,f0,f1,f2,f3,f4,f5,f6,f7,f8,f9,zW,zV⟩:=eD (DE.out.below (aF _)).loc;go_simp;clear c0 c1 c2 c3 c4 c5 c6 c7 c8 c9 zY zX f0 f1 f2 f3 f4 f5 f6 f7 f8 f9 zW zV;refine hK.out _ _ trivial (fun hS=>?_);clear hK K;(try simp only[zn]);refine zr 3 rfl (fun K hK=>?_);(try simp only[z1,z2,z3]);go_simp;refine(iS word tB.drew (DE.out.below (aF _)).at_.spc).mono ?_;rintro e zP ⟨rfl,AI⟩;rw[IS.out];have tR:=zh ((DE.out.below (aF _)).below AI);exact PE
      rw[if_pos RZ];(try simp only[z1,z2,z3]);go_simp;refine(iS word tB.drew (DE.out.below (aF _)).at_.spc).mono ?_;rintro e zP ⟨rfl,AI⟩;rw[IS.out];have tR:=zh ((DE.out.below (aF _)).below AI);refine hK.out _ _ trivial (fun hS=>?_);clear hK K;(try simp only[zn]);refine zr 1 rfl (fun K hK=>?_);(try simp only[z1,z2,z3]);obtain⟨⟨c0,c1,c2,c3,c4,c5,c6,c7,c8,c9,zY,zX⟩,f0,f1,f2,f3,f4,f5,f6,f7,f8,f9,zW,zV⟩:=eD tR.out.loc;go_simp;clear c0 c1 c2 c3 c4 c5 c6 c7 c8 c9 zY zX f0 f1 f2 f3 f4 f5 f6 f7 f8 f9 zW zV;exact PE
    |false=>
     ·skip;go_wp2_with(go_at_call 120;refine(bI p wr q word HS.out.at_ hq).mono ?_;rintro e tB ⟨rfl,GS,FM⟩);have DE:=zh (HS.out.nextP FM GS);have vY:Hid (dF p.l cD 0 ES=dF p.l (cD.drop (kk+1)) (en:Int) q):=zh (by rw[qI.out,DV.out,hq,if_neg R2]);have EP:Hid (en<2 ^ (kk+1)):=zh (by rw[Nat.pow_succ];omega);clear GS FM hc;go_roundw;(case rel=>exact⟨kk+1,q,en,RY,SK,EP,DE,vY,HJ⟩);case measure=>simp[intOf];omega
   have hk:kk=4:=RY;subst hk
   ·skip;have HEf:Hid (dF p.l cD 0 ES=((en:Int),q)):=zh qI.out;obtain⟨⟨c0,c1,c2,c3,c4,c5,c6,c7,c8,c9,zY,zX⟩,f0,f1,f2,f3,f4,f5,f6,f7,f8,f9,zW,zV⟩:=eD HS.out.loc;go_wp2_with(go_at_call 49;refine(fZ p wr q _ _ HS.out.at_).mono ?_;rintro e w16 (⟨he,rfl,rfl⟩|⟨he,rfl,C1⟩))
    ·have HIq:Hid (i<q):=zh (by have:=HI10.out;have:=HJ.out;omega);have NX:=zh (NY.out.trans (PR.bnd_ok (bang_yes hb KB.out HEf.out US)));clear c0 c1 c2 c3 c4 c5 c6 c7 c8 c9 zY zX f0 f1 f2 f3 f4 f5 f6 f7 f8 f9 zW zV;clear he;go_wp2_with(go_at_call 116;refine(end_any p wr q _ kEq HS.out.at_).mono ?_;rintro e w20 (⟨x20,wX,rfl,AF⟩|⟨⟨⟩,i20,wX,⟨rfl,GQ⟩,AF⟩))
     ·exact⟨rfl,Ran.bad' (NX.out.trans (PR.bnd_bad wX)) (HS.out.off.trans (AF.mono fun _ h=>.inl h))⟩
     skip;have AO:=zh (HS.out.nextP AF GQ);have H8:=zh (NX.out.trans (PR.bnd_ok wX));have hi20:=endP_ok wX;clear wX AF GQ;go_wp2_with(go_at_call 118;refine(mP p HX.out w20 i20 dB AO.out.at_).mono ?_;rintro e JF (⟨x21,CQ,rfl,CV⟩|⟨x,i21,CQ,⟨⟨op,n1,s1,m1,a1,m2,qa,a2,m3,qb,rfl,hex⟩,NA,hij21⟩,CV⟩)<;>first|(have vZ:=zh (AO.out.nextP CV NA);obtain⟨⟨c0,c1,c2,c3,c4,c5,c6,c7,c8,c9,zY,zX⟩,f0,f1,f2,f3,f4,f5,f6,f7,f8,f9,zW,zV⟩:=eD vZ.out.loc;obtain⟨⟨r0,r1,r2,r3,r4,r5,r6,r7,r8,r9,wT,wS⟩,g0,g1,g2,g3,g4,g5,g6,g7,g8,g9,g10,g11⟩:=eD vZ.out.res)|skip)
     ·exact⟨rfl,Ran.bad' (H8.out.trans (PR.bnd_bad CQ)) (AO.out.off.trans (CV.mono fun _ h=>.inl h))⟩
     have NF:(fun W=>bJ (fun b=>w.heap.size<b/\b≠b5/\b≠km) W x [.int .i64 op,.int .i64 n1,.string s1,.string m1,.slice a1 m2 qa,.slice a2 m3 qb]) JF:=aH.wide hex (fun b hb _=>UL);have yQ:Mk 47 kP p (p.S2 km) p.S w b5 #[.string nm,.bool pub,.slice pa pn pc,.int .i64 k,.slice sa sn sc,.int .i64 (en:Int),.int .i64 op,.int .i64 n1,.string s1,.string m1,.slice a1 m2 qa,.slice a2 m3 qb] (fun W=>(fun W=>(((True/\(fun W=>bR jQ fU W km (n+1) (eN fun z=>decide (z=nm)||known z)) W)/\(fun W=>aO 3 fH (fun b=>w.heap.size<b/\b≠b5/\b≠km) W (.slice pa pn pc) ps) W)/\(fun W=>gB (fun b=>w.heap.size<b/\b≠b5/\b≠km) W t [.int .i64 k,.slice sa sn sc]) W)/\(fun W=>∀j,j<bG.length->W.cell? ⟨g,0+j,none⟩=some (.string (bG.getD j ByteArray.empty))) W) W/\(fun W=>bJ (fun b=>w.heap.size<b/\b≠b5/\b≠km) W x [.int .i64 op,.int .i64 n1,.string s1,.string m1,.slice a1 m2 qa,.slice a2 m3 qb]) W) i21 ((((((JF.setCell ⟨b5,6,none⟩ (.int .i64 op)).setCell ⟨b5,7,none⟩ (.int .i64 n1)).setCell ⟨b5,8,none⟩ (.string s1)).setCell ⟨b5,9,none⟩ (.string m1)).setCell ⟨b5,10,none⟩ (.slice a1 m2 qa)).setCell ⟨b5,11,none⟩ (.slice a2 m3 qb)):=(vZ.out.add (F:=(fun W=>bJ (fun b=>w.heap.size<b/\b≠b5/\b≠km) W x [.int .i64 op,.int .i64 n1,.string s1,.string m1,.slice a1 m2 qa,.slice a2 m3 qb])) NF (dY.enc aH (stbl_S fun b hb=>⟨fun e=>by have:=hb.1;omega,hb.2.1⟩))).put HW.out ((Off.refl (fun b=>b=b5) JF).one.one.one.one.one.one) (by rw[aU (aU (aU (aU (aU (aU vZ.out.loc _) _) _) _) _) _];rfl);(have BJ:∀b,b=w.heap.size->¬(fun b=>w.heap.size<b/\b≠b5/\b≠km) b:=fun b hb hn=>by have:=hn.1;omega);have hD:=yQ.done HW.out (set12_off _ w.heap.size (.string nm) (.bool pub) (.slice pa pn pc) (.int .i64 k) (.slice sa sn sc) (.int .i64 (en:Int)) (.int .i64 op) (.int .i64 n1) (.string s1) (.string m1) (.slice a1 m2 qa) (.slice a2 m3 qb)) (((((dY.true.and (dY.map RY)).and (dY.row aT R0 BJ)).and (dY.enc dM BJ)).and (dY.cells RY)).and (dY.enc aH BJ));unfold set12 at hD;refine bodyPost_ret (v:=oBx10 nm pub pa pn pc k sa sn sc (en:Int) op n1 s1 m1 a1 m2 qa a2 m3 qb) UT rfl ?_;obtain⟨⟨⟨⟨⟨⟨-,MQ⟩,rQ⟩,MF⟩,-⟩,AH⟩,qV,CU⟩:=hD;exact QL
    have NX:=NY.out.trans (PR.bnd_bad (bang_zero hb KB.out HEf.out US));exact⟨rfl,Ran.bad NX (HS.out.off.trans (Ba C1))⟩
end Go.Proofs.YtiionicikdnnpaaGreatDoor
namespace Go.Proofs.YtiionicikdnnpaaGreatDoor
open Go.RowKit
theorem catch_idle(a b:Nat)(w:World):CallsD Tryz.prog 109 #[.pointer (some ⟨a,0,none⟩),.pointer (some ⟨b,0,none⟩)] .returning w fun e u' w'=>e=.returned (.tuple #[])/\u'=.returning/\w'=w:=by
 refine callsD_of_wpS Tryz.func109 rfl fun c₀ cs hu=>?_;apply wpS_seq;apply wpS_region;simp[wpOpsS,go_sem,recoverD,hu,Tryz.ntmps109,Exit.thenS];refine wpS_of_wp ?_;simp only[Array.replicate_succ,Array.replicate_zero,List.push_toArray,List.append_toArray,List.nil_append,List.cons_append,List.setIfInBounds_toArray,List.set_cons_zero,List.set_cons_succ]
 go_wp2
 cases c₀;simp_all [bodyPostS,results,Tryz.results109]
theorem catch_fault(a b:Nat)(x:Int×Int)(older:List PanicEntry)(w:World)(ha:w.heap[a]? =some (kJ 0))(hb:w.heap[b]? =some (oT 0)):
  CallsD Tryz.prog 109 #[.pointer (some ⟨a,0,none⟩),.pointer (some ⟨b,0,none⟩)] (.panicking ({v:=.iface 144 (.agg #[.int .i64 x.1,.int .i64 x.2]),recovered:=false}::older)) w fun e u' w'=>
   e=.returned (.tuple #[])/\u'=.panicking ({v:=.iface 144 (.agg #[.int .i64 x.1,.int .i64 x.2]),recovered:=true}::older)/\Off (fun k=>k=a\/k=b) w w'/\w'.heap[a]? =some (kJ x.1)/\w'.heap[b]? =some (oT x.2):=by
 refine callsD_of_wpS Tryz.func109 rfl fun c₀ cs hu=>?_;apply wpS_seq;apply wpS_region;simp[wpOpsS,go_sem,recoverD,hu,Tryz.ntmps109,Exit.thenS];refine wpS_of_wp ?_;simp only[Array.replicate_succ,Array.replicate_zero,List.push_toArray,List.append_toArray,List.nil_append,List.cons_append,List.setIfInBounds_toArray,List.set_cons_zero,List.set_cons_succ];obtain⟨a0,a1⟩:=bx ha 0 (u:=.int .i64 0) rfl;obtain⟨b0,b1⟩:=bx hb 0 (u:=.int .i64 0) rfl;have yF:=(Array.getElem?_eq_some_iff.1 ha).1;have LA:=(Array.getElem?_eq_some_iff.1 hb).1;have HT:∀(x1 x2:Int)(w:World),(Instr.typeAssert (.iface 144 (.agg #[.int .i64 x1,.int .i64 x2])) 20 144 true).run Tryz.prog w=.ok (.tuple #[.agg #[.int .i64 x1,.int .i64 x2],.bool true]) w:=fun x1 x2 w=>RZ;have hab:a≠b:=by rintro rfl;rw[ha] at hb;cases hb
 go_wp2
 refine wp_region_held_drew (S:=(fun W=>W.heap[w.heap.size]? =some (.cells #[.int .i64 x.1,.int .i64 x.2] 144))) RZ (by exact bY w _) fun hS=>?_;refine zq 0 (.pointer (some ⟨w.heap.size,0,none⟩)) rfl ?_;refine zt 1 (.int .i64 x.1) rfl (fun W hW=>by obtain⟨k0,k1,-⟩:=bxT2 hW;go_simp) ?_;refine zq 2 (.pointer (some ⟨w.heap.size,1,none⟩)) rfl ?_;refine zt 3 (.int .i64 x.2) rfl (fun W hW=>by obtain⟨k0,k1,-⟩:=bxT2 hW;go_simp) ?_;try simp only[zn]
 have hna:¬w.heap.size=a:=RY;have AG:¬w.heap.size=b:=RY;refine zr 4 rfl (fun K hK=>?_);try simp only[z1,z2,z3]
 go_simp;refine hK.out _ _ (by have h:=bY (w.setCell ⟨a,0,none⟩ (.int .i64 x.1)) (.cells #[.int .i64 x.1,.int .i64 x.2] 144);rw[fR] at h;exact h) (fun hS=>?_);clear hK K;try simp only[zn]
 refine zr 5 rfl (fun K hK=>?_);try simp only[z1,z2,z3]
 go_simp;refine hK.out _ _ (by have h:=bY ((w.setCell ⟨a,0,none⟩ (.int .i64 x.1)).setCell ⟨b,0,none⟩ (.int .i64 x.2)) (.cells #[.int .i64 x.1,.int .i64 x.2] 144);rw[fR,fR] at h;exact h) (fun hS=>?_);clear hK K;try simp only[zn]
 refine wpAnyH_done RZ ?_ _
 go_wp2
 simp[bodyPostS,results,Tryz.results109];have oa:Off (fun k=>k=a\/k=b) w ((w.setCell ⟨a,0,none⟩ (.int .i64 x.1)).setCell ⟨b,0,none⟩ (.int .i64 x.2)):=(Off.setCell (S:=fun k=>k=a\/k=b) w (.inl rfl)).trans (Off.setCell (S:=fun k=>k=a\/k=b) _ (.inr rfl));have qY:((w.setCell ⟨a,0,none⟩ (.int .i64 x.1)).setCell ⟨b,0,none⟩ (.int .i64 x.2)).heap[a]? =some (kJ x.1):=by rw[Below.heap_setCell _ _ _ _ (by show a≠b;exact hab),aU ha];rfl
 have pN:((w.setCell ⟨a,0,none⟩ (.int .i64 x.1)).setCell ⟨b,0,none⟩ (.int .i64 x.2)).heap[b]? =some (oT x.2):=by rw[aU ((Below.heap_setCell _ _ _ _ (by show b≠a;exact fun e=>hab e.symm)).trans hb)];rfl
 exact⟨(oa.trans (Ba (aB _ _))).drew,aC (aB _ _).drew qY,aC (aB _ _).drew pN⟩
end Go.Proofs.YtiionicikdnnpaaGreatDoor
