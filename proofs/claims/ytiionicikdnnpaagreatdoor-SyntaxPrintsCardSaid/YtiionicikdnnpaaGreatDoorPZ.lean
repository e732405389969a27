/- Texts of this seat, joined. -/
import Derived.Test.YtiionicikdnnpaaGreatDoorPY
set_option maxHeartbeats 16000000
set_option maxRecDepth 100000
set_option linter.unusedVariables false
set_option linter.unusedSimpArgs false
set_option linter.constructorNameAsVariable false
namespace Go.Proofs.YtiionicikdnnpaaGreatDoor
open Go.RowKit
theorem wholes_any(p:Prs)(hX:ExpAll p)(n:Nat)(hn:n<=1000)(w:World)(i:Nat)(s:bA)(h:p.At w i):Calls Tryz.prog 122 #[.pointer (some ⟨p.pb,0,none⟩),.int .i64 (n:Int),.string s] w
  (Ran p.S w (iC p.l n i s) (RowV p 6 aU w i)):=by
 obtain⟨i0,wO,tS,rZ,rY⟩:=info_parts xpInfo;have HW:=zh h;have rD:=h.len
 cases n with
 |zero=>
  have HR:Hid (iC p.l 0 i s=(dN p.l i s).bnd fun _ j=>.ok ([],j)):=zh rfl;clear h hX;go_enter Tryz.func122,Tryz.ntmps122;go_wp2_with(go_at_call 110;refine(dD p w i s HW.out).mono ?_;rintro e w1 (⟨x,hx,rfl,qI⟩|⟨⟨⟩,j,hx,⟨rfl,qV⟩,qI⟩))
  ·exact VO
  have hj:=(cT hx).1;go_ret;exact Ran.good (HR.out.trans (PR.bnd_ok hx)) ⟨none,0,0,rfl,aO.nil _ _ _ _,qV,VS⟩ qI
 |succ n=>
  have HX:=zh hX;have HR:Hid (iC p.l (n+1) i s=iU p.l s n [] i):=zh rfl;have wI:((n+1:Nat):Int)=(n:Int)+1:=VS;rw[wI];have hn2:(n:Int)+1<=1000:=VS;have hn3:((n:Int)+1==0)=false:=V7;clear h hX wI;go_enter Tryz.func122,Tryz.ntmps122;go_wp2_with fail;have Q8:Hid (GrL 6 35 aU p w [] [] (.slice none 0 0) i w):=zh ⟨Off.refl _ _,Gro.first _ _ _ _,HW.out⟩;go_loopw [7,15] (fun v c wr=>∃(k:Nat)(a:Option Addr)(cc q:Nat)(out:List Xp)(css:List (List Value)),k<=n/\c=.int .i64 (k:Int)/\v=.slice a out.length cc/\Hid (GrL 6 35 aU p w out css v q wr)/\Hid (iC p.l (n+1) i s=iU p.l s (n-k) out q)/\Hid (i<=q/\out.length=k)) (fun _ c _=>n-(intOf c).toNat)
  case atStart=>exact⟨0,none,0,i,[],[],VS,rfl,rfl,Q8,HR,zh ⟨Nat.le_refl _,rfl⟩⟩
  case round=>
   obtain⟨k,a,cc,q,out,css,hk,rfl,rfl,HL,qO,HB⟩:=hrel;(rename World=>wr);have yT:=HB.out.1;(have zX:out.length<=1000:=by have:=HB.out.2;omega);by_cases pS:k<n
   ·have uX:Hid (iC p.l (n+1) i s=(mC p.l q bE).bnd fun x j=>iU p.l s (n-(k+1)) (out++[x]) j):=zh (by rw[qO.out,show n-k=(n-(k+1))+1 by omega];rfl);go_wp2_with(first|(at_builtin;have HL9:=HL.out.next aG HW.out (qU.trans (Ba (aC w7 (aH op n1 s1 m a1 m1 c1 a2 m2 c2)))) (sU.later (aC _ _));have sZ:=HL9.acc;have tB:=sZ.big;refine wpList_append_lies _ rfl _ _ 25 rfl w.heap.size 35 i0 (bW 0 0 ByteArray.empty ByteArray.empty none 0 0 none 0 0) 6 96 Tryz.underlying25 wO tS rZ rY rfl VS (.slice a out.length cc) out.length css.flatten W7 sZ.own ⟨w7.heap.size,0,none⟩ 1 1 [.int .i64 op,.int .i64 n1,.string s1,.string m,.slice a1 m1 c1,.slice a2 m2 c2] W7 rfl (World.news_of_block (cs:=#[.int .i64 op,.int .i64 n1,.string s1,.string m,.slice a1 m1 c1,.slice a2 m2 c2]) (t:=35) (fr:=(0,0)) (bY w7 _)) WF VS WL VS tB (w7.heap.size+1) VY ?_)|(go_at_call 118;refine(mQ p HX.out wr q bE HL.out.at_).mono ?_;rintro e w7 (⟨x7,sA,rfl,qU⟩|⟨x,j,sA,⟨⟨op,n1,s1,m,a1,m1,c1,a2,m2,c2,rfl,hex⟩,sU,hqj⟩,qU⟩)))
    ·exact⟨rfl,Ran.bad' (uX.out.trans (PR.bnd_bad sA)) (HL.out.off.trans qU)⟩
    intro g cap rH pT pL qW _;have tL:=zh (HL.out.step aG HW.out (qU.trans (Ba (aC w7 (aH op n1 s1 m a1 m1 c1 a2 m2 c2)))) (sU.later (aC _ _)) (HL.out.fresh_enc aG (aG _ _ _ _ _ _ (aK.later (aC w7 (aH op n1 s1 m a1 m1 c1 a2 m2 c2))) hex)) rfl pT rfl pL YH).1;have wS:=zh (uX.out.trans (PR.bnd_ok sA));have HJ:Hid (i<=j/\(out++[x]).length=k+1):=zh ⟨VS,by simp[HB.out.2]⟩;clear pT pL qW hex sU qU sA HL qO uX;go_wp2_with fail;go_roundw;(case rel=>exact⟨k+1,some ⟨g,0,none⟩,cap,j,out++[x],_,VS,WH,VY,tL,wS,HJ⟩);case measure=>simp[intOf];omega
   have NT:k=n:=VS;have uX:Hid (iC p.l (n+1) i s=(mC p.l q s).bnd fun x j=>.ok (out++[x],j)):=zh (by rw[qO.out,NT,Nat.sub_self];rfl);subst NT;go_wp2_with(first|(at_builtin;have HL9:=HL.out.next aG HW.out (qU.trans (Ba (aC w7 (aH op n1 s1 m a1 m1 c1 a2 m2 c2)))) (sU.later (aC _ _));have sZ:=HL9.acc;have tB:=sZ.big;refine wpList_append_lies _ rfl _ _ 25 rfl w.heap.size 35 i0 (bW 0 0 ByteArray.empty ByteArray.empty none 0 0 none 0 0) 6 96 Tryz.underlying25 wO tS rZ rY rfl VS (.slice a out.length cc) out.length css.flatten W7 sZ.own ⟨w7.heap.size,0,none⟩ 1 1 [.int .i64 op,.int .i64 n1,.string s1,.string m,.slice a1 m1 c1,.slice a2 m2 c2] W7 rfl (World.news_of_block (cs:=#[.int .i64 op,.int .i64 n1,.string s1,.string m,.slice a1 m1 c1,.slice a2 m2 c2]) (t:=35) (fr:=(0,0)) (bY w7 _)) WF VS WL VS tB (w7.heap.size+1) VY ?_)|(go_at_call 118;refine(mQ p HX.out wr q s HL.out.at_).mono ?_;rintro e w7 (⟨x7,sA,rfl,qU⟩|⟨x,j,sA,⟨⟨op,n1,s1,m,a1,m1,c1,a2,m2,c2,rfl,hex⟩,sU,hqj⟩,qU⟩)))
   ·exact⟨rfl,Ran.bad' (uX.out.trans (PR.bnd_bad sA)) (HL.out.off.trans qU)⟩
   intro g cap rH pT pL qW _;have tL:=zh (HL.out.step aG HW.out (qU.trans (Ba (aC w7 (aH op n1 s1 m a1 m1 c1 a2 m2 c2)))) (sU.later (aC _ _)) (HL.out.fresh_enc aG (aG _ _ _ _ _ _ (aK.later (aC w7 (aH op n1 s1 m a1 m1 c1 a2 m2 c2))) hex)) rfl pT rfl pL YH).1;have hR:=uX.out.trans (PR.bnd_ok sA);clear pT pL qW hex sU qU sA;go_wp2_with fail;go_ret;exact Ran.good hR ⟨_,_,_,rfl,by simpa using tL.out.acc.row aG,tL.out.at_,VS⟩ tL.out.off
theorem T5{p:Prop}(h:p:=by
 refine congrArg eK (funext fun z=>?_);simp only[List.any_append,List.any_cons,List.any_nil,Bool.or_false];rw[Bool.or_comm];by_cases h:a=z
 ·subst h;rfl
 have h2:¬z=a:=fun e=>h e.symm
 simp only[decide_eq_false h,decide_eq_false h2]):p:=h
theorem Gro.cells{α:Type}{k:Nat}{T:TypeId}{enc:(Nat->Prop)->World->α->List Value->Prop}{B:Nat}{l:List α}{css:List (List Value)}{v:Value}{w:World}(h:Gro k T enc B l css v w){b:Nat}(hb:v.ownBlock=some b):∃cs t fr,w.heap[b]? =some (.cells cs t fr):=by
 rcases h.own.2 with⟨rfl,-⟩|⟨g,cap,cur,rfl,-,LS,-⟩
 ·cases hb
 have e:g=b:=by simpa[Value.ownBlock] using hb
 subst e;exact⟨_,_,_,LS⟩
theorem Gro.nemap{α:Type}{k:Nat}{T:TypeId}{enc:(Nat->Prop)->World->α->List Value->Prop}{B:Nat}{l:List α}{css:List (List Value)}{v:Value}{w:World}(h:Gro k T enc B l css v w){km:Nat}(hm:gD w km):v.ownBlock≠some km:=fun e=>by
 obtain⟨cs,t,fr,h1⟩:=h.cells e;obtain⟨es,c,h2⟩:=hm;rw[h1] at h2;cases h2
section
variable {α:Type} {k:Nat} {T:TypeId} {enc:(Nat->Prop)->World->α->List Value->Prop} {p:Prs} {W w5 w9 rH:World} {out:List α} {css:List (List Value)} {v:Value} {q j i0 km:Nat}
theorem GrL.fresh(he:eF enc)(hW:p.At W i0)(h:GrL k T enc p W out css v q w5)(hm:gD w5 km)(hk:W.heap.size<=km)(ho:Off (p.S2 km) w5 w9)(ha:p.At w9 j):GrL k T enc p W out css v j w9:=
 ⟨Off.fresh ((h.off.or _).trans (ho.mono fun b hb=>hb.elim (fun e=>.inl e) (fun e=>.inr VS))) (Nat.le_refl _),
  h.acc.stays he (cV.of_off ho fun b hb=>hb.elim (fun e=>.inl (by have:=hW.blt;omega)) (fun e=>.inr (by rw[e];exact hm))),ha⟩
end
theorem GrL.field{p:Prs}{W w6 w7 rH:World}{g cap n1 i0 j2 q:Nat}{fs:List Fld}{css:List (List Value)}{v:Value}{a:bA}{t:Ty}{k:Int}{sa:Option Addr}{sn sc:Nat}(hW:p.At W i0)(h6:GrL 3 105 eH p W fs css v q w6)
  (qU:Off p.S (w6.alloc (bZ a 0 none 0 0)) w7) (sU:p.At w7 j2) (tI:eX (bP (w6.alloc (bZ a 0 none 0 0)).heap.size) w7 t [.int .i64 k,.slice sa sn sc]) (hs:a.size<=8000)
  (pT:rH.ownsRow W.heap.size 105 3 (.slice (some ⟨g,0,none⟩) n1 cap) n1 (css.flatten++[.string a,.int .i64 k,.slice sa sn sc])) (hn:n1=fs.length+1) (pL:(((w7.setCell ⟨w6.heap.size,1,none⟩ (.int .i64 k)).setCell ⟨w6.heap.size,2,none⟩ (.slice sa sn sc)).alloc (bZ a k sa sn sc)).grownBy rH v.ownBlock) (qW:v.ownBlock=some g\/g=w7.heap.size+1):
  GrL 3 105 eH p W (fs++[(a,t)]) (css++[[.string a,.int .i64 k,.slice sa sn sc]]) (.slice (some ⟨g,0,none⟩) n1 cap) j2 rH/\eX (bP (w6.heap.size+1)) rH t [.int .i64 k,.slice sa sn sc]/\
  rH.heap[w6.heap.size]? =some (bZ a k sa sn sc)/\Off (fun b=>b=w6.heap.size\/v.ownBlock=some b) w7 rH:=by
 have rK:=h6.acc.big;have uS:=hW.blt;have pS:=h6.acc.lt;have tT:(w6.alloc (bZ a 0 none 0 0)).heap.size=w6.heap.size+1:=VY;have o7:Off p.S w6 w7:=(Ba (aC w6 (bZ a 0 none 0 0))).trans qU;have GS:w6.heap.size+1<=w7.heap.size:=by have:=qU.size;omega
 have o8:Off (fun b=>b=w6.heap.size) w7 ((w7.setCell ⟨w6.heap.size,1,none⟩ (.int .i64 k)).setCell ⟨w6.heap.size,2,none⟩ (.slice sa sn sc)):=(Off.setCell (S:=fun b=>b=w6.heap.size) w7 rfl).trans (Off.setCell (S:=fun b=>b=w6.heap.size) _ rfl);have o9:Off (fun b=>b=w6.heap.size) w7 (((w7.setCell ⟨w6.heap.size,1,none⟩ (.int .i64 k)).setCell ⟨w6.heap.size,2,none⟩ (.slice sa sn sc)).alloc (bZ a k sa sn sc)):=o8.trans (Ba (aC _ _));have O9:Off p.S w6 (((w7.setCell ⟨w6.heap.size,1,none⟩ (.int .i64 k)).setCell ⟨w6.heap.size,2,none⟩ (.slice sa sn sc)).alloc (bZ a k sa sn sc)):=Off.fresh ((o7.or w6.heap.size).trans (o9.mono fun b hb=>.inr VS)) (Nat.le_refl _);have yQ:=hW.above sU (o9.mono (S':=fun b=>W.heap.size<=b) fun b hb=>VS)
 have hx:eH (nE W.heap.size v) (((w7.setCell ⟨w6.heap.size,1,none⟩ (.int .i64 k)).setCell ⟨w6.heap.size,2,none⟩ (.slice sa sn sc)).alloc (bZ a k sa sn sc)) (a,t) [.string a,.int .i64 k,.slice sa sn sc]:=by
  exact TZ
 have AW:(((w7.setCell ⟨w6.heap.size,1,none⟩ (.int .i64 k)).setCell ⟨w6.heap.size,2,none⟩ (.slice sa sn sc)).alloc (bZ a k sa sn sc)).heap.size=w7.heap.size+1:=VY;have hT:=h6.step aS hW O9 yQ hx rfl pT hn pL ZE;have GW:w7.heap[w6.heap.size]? =some (bZ a 0 none 0 0):=qU.heap (fun e=>by have e:w6.heap.size=p.pb:=e;omega) (bY w6 (bZ a 0 none 0 0))
 have hf8:(((w7.setCell ⟨w6.heap.size,1,none⟩ (.int .i64 k)).setCell ⟨w6.heap.size,2,none⟩ (.slice sa sn sc)).alloc (bZ a k sa sn sc)).heap[w6.heap.size]? =some (bZ a k sa sn sc):=by
  refine aD (aC _ _) ?_;rw[aW (aW GW _) _];rfl
 have yP:Off (fun b=>v.ownBlock=some b) (((w7.setCell ⟨w6.heap.size,1,none⟩ (.int .i64 k)).setCell ⟨w6.heap.size,2,none⟩ (.slice sa sn sc)).alloc (bZ a k sa sn sc)) rH:=⟨pL.os,pL.tape,pL.output,pL.size,fun b hb hn=>pL.block b hb (fun e=>hn e.symm)⟩;refine⟨hT.1,?_,?_,(o9.mono fun b hb=>.inl hb).trans (yP.mono fun b hb=>.inr hb)⟩
 ·rw[tT] at tI;exact cB.off tI ((o9.mono (S':=fun b=>b<=w6.heap.size) fun b hb=>VS).trans (yP.mono fun b hb=>by have:=(pS b hb).2;omega)) (fun b hb hn=>by have hn:w6.heap.size+1<=b:=hn;omega)
 exact yP.heap (fun e=>by have:=(pS _ e).2;omega) hf8
section
variable {l:List Tok} {F q most:Nat} {fs:List Fld}
theorem nV(hq:dC l q=false):eJ l most (F+1) fs q=.error ((aM l q).pos,11):=by
 rw[eJ,if_neg YM];unfold gH;rw[hq];rfl
theorem fieldsFrom_full(hq:dC l q=true)(hm:¬fs.length<most):eJ l most (F+1) fs q=.error ((aM l q).pos,6):=by
 rw[eJ,if_pos hq];unfold gX;rw[if_neg hm];rfl
theorem jW(hq:dC l q=true)(hm:fs.length<most):eJ l most (F+1) fs q=
  (gH l q (fun s=>fs.any fun x=>decide (x.1=s))).bnd fun s j=>(kD l j).bnd fun t j2=>(moreP l j2 t cF).bnd fun q j3=>if q then .ok (fs++[(s,t)],j3) else eJ l most F (fs++[(s,t)]) j3:=by
 rw[eJ,if_pos hq];unfold gX;rw[if_pos hm];rfl
theorem any_push(fs:List Fld)(a:bA)(t:Ty):(eK fun z=>decide (z=a)||fs.any fun x=>decide (x.1=z))=eK fun s=>(fs++[(a,t)]).any fun x=>decide (x.1=s):=by
 exact T5
theorem freshP_noname{known:bA->Bool}(hq:dC l q=false):gH l q known=.error ((aM l q).pos,11):=by unfold gH;rw[hq];rfl
end
theorem off_S2{p:Prs}{W w5 w9:World}{km:Nat}(h:Off p.S W w5)(ho:Off (p.S2 km) w5 w9)(hk:W.heap.size<=km):Off p.S W w9:=
 Off.fresh ((h.or _).trans (ho.mono fun b hb=>hb.elim (fun e=>.inl e) (fun e=>.inr VS))) (Nat.le_refl _)
end Go.Proofs.YtiionicikdnnpaaGreatDoor
namespace Go.Proofs.YtiionicikdnnpaaGreatDoor
open Go.RowKit
def hO(N:Nat->Prop)(w:World)(f:Fnc)(cs:List Value):Prop:=∃vp k vf op n s m vn va,cs=[.string f.name,.bool f.pub,vp,.int .i64 k,vf,.int .i64 f.effects,.int .i64 op,.int .i64 n,.string s,.string m,vn,va]/\f.name.size<=8000/\
 aO 3 eH N w vp f.params/\eX N w f.result [.int .i64 k,vf]/\aU N w f.body [.int .i64 op,.int .i64 n,.string s,.string m,vn,va]
theorem bD:eF hO:=fun _ _ _ _ f cs hm h=>by
 obtain⟨vp,k,vf,op,n,s,m,vn,va,h1,h2,h3,h4,h5⟩:=h;exact⟨vp,k,vf,op,n,s,m,vn,va,h1,h2,h3.moves aS hm VU,cB _ _ _ _ _ _ hm h4,aG _ _ _ _ _ _ hm h5⟩
def dZ(S:Nat->Prop)(E:World->Prop):Prop:=∀w w',Off S w w'->E w->E w'
theorem dZ.and{S:Nat->Prop}{E F:World->Prop}(h:dZ S E)(k:dZ S F):dZ S fun w=>E w/\F w:=fun _ _ ho hE=>⟨h _ _ ho hE.1,k _ _ ho hE.2⟩
theorem dZ.true{S:Nat->Prop}:dZ S fun _=>True:=fun _ _ _ _=>trivial
theorem dZ.row{α:Type}{k:Nat}{enc:(Nat->Prop)->World->α->List Value->Prop}(he:eF enc)(hk:0<k){S N:Nat->Prop}(hS:∀b,S b->¬N b){v:Value}{l:List α}:dZ S fun w=>aO k enc N w v l:=
 fun _ _ ho h=>h.moves he (fun b hb _=>⟨hb,fun _ _ hv=>ho.cell (fun hs=>hS b hs hb) hv⟩) hk
theorem dZ.enc{α:Type}{enc:(Nat->Prop)->World->α->List Value->Prop}(he:eF enc){S N:Nat->Prop}(hS:∀b,S b->¬N b){x:α}{cs:List Value}:dZ S fun w=>enc N w x cs:=fun _ _ ho h=>he.off h ho hS
structure Mk (T:TypeId) (zero:Array Value) (p:Prs) (O S:Nat->Prop) (W:World) (b5:Nat) (cells:Array Value) (E:World->Prop) (q:Nat) (wr:World):Prop where
 off:Off O W wr
 res:wr.heap[W.heap.size]? =some (.cells zero T)
 loc:wr.heap[b5]? =some (.cells cells T)
 at_:p.At wr q
 enc:E wr
 st:dZ (fun b=>S b\/b=b5) E
 hb5:W.heap.size<b5
 sO:∀b,S b->O b\/W.heap.size<b
 s5:¬S b5
 sR:¬S W.heap.size
 sP:S p.pb
section
variable {T:TypeId} {zero cells cells':Array Value} {p:Prs} {O S S':Nat->Prop} {W wr w':World} {b5 q j i0:Nat} {E F:World->Prop}
theorem Mk.next(h:Mk T zero p O S W b5 cells E q wr)(ho:Off S wr w')(ha:p.At w' j):Mk T zero p O S W b5 cells E j w':=
 ⟨Off.fresh ((h.off.or _).trans (ho.mono fun b hb=>(h.sO b hb).elim .inl fun e=>.inr (Nat.le_of_lt e))) (Nat.le_refl _),ho.heap h.sR h.res,ho.heap h.s5 h.loc,ha,h.st _ _ (ho.mono fun b hb=>.inl hb) h.enc,h.st,h.hb5,h.sO,h.s5,h.sR,h.sP⟩
theorem Mk.nextP(h:Mk T zero p O S W b5 cells E q wr)(ho:Off p.S wr w')(ha:p.At w' j):Mk T zero p O S W b5 cells E j w':=h.next (ho.mono fun b hb=>by have hb:b=p.pb:=hb;rw[hb];exact h.sP) ha
theorem Mk.below(h:Mk T zero p O S W b5 cells E q wr)(hb:Below wr.heap.size wr w'):Mk T zero p O S W b5 cells E q w':=h.next (Ba hb) (h.at_.later hb)
theorem Mk.put(h:Mk T zero p O S W b5 cells E q wr)(hW:p.At W i0)(ho:Off (fun b=>b=b5) wr w')(hl:w'.heap[b5]? =some (.cells cells' T)):Mk T zero p O S W b5 cells' E q w':=by
 have h1:=h.hb5;exact⟨Off.fresh ((h.off.or _).trans (ho.mono fun b hb=>.inr (by have hb:b=b5:=hb;omega))) (Nat.le_refl _),ho.heap VS h.res,hl,hW.above h.at_ (ho.mono fun b hb=>by have hb:b=b5:=hb;omega),h.st _ _ (ho.mono fun b hb=>.inr hb) h.enc,h.st,h1,h.sO,h.s5,h.sR,h.sP⟩
theorem Mk.add(h:Mk T zero p O S W b5 cells E q wr)(hF:F wr)(hs:dZ (fun b=>S b\/b=b5) F):Mk T zero p O S W b5 cells (fun w=>E w/\F w) q wr:=
 ⟨h.off,h.res,h.loc,h.at_,⟨h.enc,hF⟩,h.st.and hs,h.hb5,h.sO,h.s5,h.sR,h.sP⟩
theorem Mk.shrink(h:Mk T zero p O S W b5 cells E q wr)(hS:∀b,S' b->S b)(hp:S' p.pb):Mk T zero p O S' W b5 cells E q wr:=
 ⟨h.off,h.res,h.loc,h.at_,h.enc,fun w w' ho hE=>h.st w w' (ho.mono fun b hb=>hb.elim (fun e=>.inl (hS b e)) .inr) hE,h.hb5,fun b hb=>h.sO b (hS b hb),fun e=>h.s5 (hS _ e),fun e=>h.sR (hS _ e),hp⟩
theorem Mk.lt(h:Mk T zero p O S W b5 cells E q wr):b5<wr.heap.size:=(Array.getElem?_eq_some_iff.1 h.loc).1
end
theorem cY{w:World}{b:Nat}{x0 x1 x2 x3 x4 x5 x6 x7 x8 x9 x10 x11:Value}{t:TypeId}(h:w.heap[b]? =some (.cells #[x0,x1,x2,x3,x4,x5,x6,x7,x8,x9,x10,x11] t)):
  (w.cell? ⟨b,0,none⟩=some x0/\w.cell? ⟨b,1,none⟩=some x1/\w.cell? ⟨b,2,none⟩=some x2/\w.cell? ⟨b,3,none⟩=some x3/\w.cell? ⟨b,4,none⟩=some x4/\w.cell? ⟨b,5,none⟩=some x5/\w.cell? ⟨b,6,none⟩=some x6/\w.cell? ⟨b,7,none⟩=some x7/\w.cell? ⟨b,8,none⟩=some x8/\w.cell? ⟨b,9,none⟩=some x9/\w.cell? ⟨b,10,none⟩=some x10/\w.cell? ⟨b,11,none⟩=some x11)/\
  (w.frozen? ⟨b,0,none⟩=false/\w.frozen? ⟨b,1,none⟩=false/\w.frozen? ⟨b,2,none⟩=false/\w.frozen? ⟨b,3,none⟩=false/\w.frozen? ⟨b,4,none⟩=false/\w.frozen? ⟨b,5,none⟩=false/\w.frozen? ⟨b,6,none⟩=false/\w.frozen? ⟨b,7,none⟩=false/\w.frozen? ⟨b,8,none⟩=false/\w.frozen? ⟨b,9,none⟩=false/\w.frozen? ⟨b,10,none⟩=false/\w.frozen? ⟨b,11,none⟩=false):=
 ⟨⟨(bx h 0 rfl).1,(bx h 1 rfl).1,(bx h 2 rfl).1,(bx h 3 rfl).1,(bx h 4 rfl).1,(bx h 5 rfl).1,(bx h 6 rfl).1,(bx h 7 rfl).1,(bx h 8 rfl).1,(bx h 9 rfl).1,(bx h 10 rfl).1,(bx h 11 rfl).1⟩,(bx h 0 (u:=x0) rfl).2,(bx h 1 (u:=x1) rfl).2,(bx h 2 (u:=x2) rfl).2,(bx h 3 (u:=x3) rfl).2,(bx h 4 (u:=x4) rfl).2,(bx h 5 (u:=x5) rfl).2,(bx h 6 (u:=x6) rfl).2,(bx h 7 (u:=x7) rfl).2,(bx h 8 (u:=x8) rfl).2,(bx h 9 (u:=x9) rfl).2,(bx h 10 (u:=x10) rfl).2,(bx h 11 (u:=x11) rfl).2⟩
abbrev jX:Array Value:=#[.string ⟨#[]⟩,.bool false,.slice none 0 0,.int .i64 0,.slice none 0 0,.int .i64 0,.int .i64 0,.int .i64 0,.string ⟨#[]⟩,.string ⟨#[]⟩,.slice none 0 0,.slice none 0 0]
theorem stbl_S{p:Prs}{b5:Nat}{N:Nat->Prop}(h:∀b,N b->b≠p.pb/\b≠b5):∀b,(p.S b\/b=b5)->¬N b:=fun b hb hn=>hb.elim (fun e=>(h b hn).1 e) (fun e=>(h b hn).2 e)
def set12(w:World)(b:Nat)(x0 x1 x2 x3 x4 x5 x6 x7 x8 x9 x10 x11:Value):World:=
 (((((((((((w.setCell ⟨b,0,none⟩ x0).setCell ⟨b,1,none⟩ x1).setCell ⟨b,2,none⟩ x2).setCell ⟨b,3,none⟩ x3).setCell ⟨b,4,none⟩ x4).setCell ⟨b,5,none⟩ x5).setCell ⟨b,6,none⟩ x6).setCell ⟨b,7,none⟩ x7).setCell ⟨b,8,none⟩ x8).setCell ⟨b,9,none⟩ x9).setCell ⟨b,10,none⟩ x10).setCell ⟨b,11,none⟩ x11
theorem Off.one{w w':World}{b o:Nat}{v:Value}(h:Off (fun k=>k=b) w w'):Off (fun k=>k=b) w (w'.setCell ⟨b,o,none⟩ v):=h.trans (Off.setCell (S:=fun k=>k=b) _ rfl)
theorem set12_off(w:World)(b:Nat)(x0 x1 x2 x3 x4 x5 x6 x7 x8 x9 x10 x11:Value):Off (fun k=>k=b) w (set12 w b x0 x1 x2 x3 x4 x5 x6 x7 x8 x9 x10 x11):=by
 unfold set12;exact(Off.refl _ _).one.one.one.one.one.one.one.one.one.one.one.one
theorem dZ.cells{S:Nat->Prop}{g n:Nat}{f:Nat->Value}(hS:¬S g):dZ S fun W=>∀j,j<n->W.cell? ⟨g,0+j,none⟩=some (f j):=fun _ _ ho hw j hj=>ho.cell hS (hw j hj)
theorem dZ.map{S:Nat->Prop}{km n:Nat}{m:bA->Option Bool}(hS:¬S km):dZ S fun w=>bQ jC fG w km n m:=fun _ _ ho h=>h.of_block (ho.block km h.lt hS)
theorem Mk.done{T:TypeId}{zero cells:Array Value}{p:Prs}{O S:Nat->Prop}{W wr w':World}{b5 q i0:Nat}{E:World->Prop}(h:Mk T zero p O S W b5 cells E q wr)(hW:p.At W i0)(ho:Off (fun b=>b=W.heap.size) wr w')(hE:dZ (fun b=>b=W.heap.size) E):E w'/\p.At w' q/\Off O W w':=
 ⟨hE _ _ ho h.enc,hW.above h.at_ (ho.mono fun b hb=>by have hb:b=W.heap.size:=hb;omega),Off.fresh ((h.off.or _).trans (ho.mono fun b hb=>.inr (Nat.le_of_eq (Eq.symm hb)))) (Nat.le_refl _)⟩
end Go.Proofs.YtiionicikdnnpaaGreatDoor
namespace Go.Proofs.YtiionicikdnnpaaGreatDoor
open Go.RowKit
theorem fields_any(p:Prs)(most:Nat)(hmost:most<=8)(w:World)(i:Nat)(h:p.At w i):Calls Tryz.prog 121 #[.pointer (some ⟨p.pb,0,none⟩),.int .i64 (most:Int)] w
  (Ran p.S w (jV p.l most i) (RowV p 3 eH w i)):=by
 obtain⟨i0,wO,tS,rZ,rY⟩:=info_parts fldInfo;have HW:=zh h;have KV:=@run_makeMap Tryz.prog;have rD:=h.len;have hg11:=h.glob.big;have OE:=zh (dD p w i aY h);have HR:Hid (jV p.l most i=(dN p.l i aY).bnd fun _ j=>if isP p.l j cF then .ok ([],j+1) else eJ p.l most (p.l.length+1) [] j):=zh rfl;clear h;go_enter Tryz.func121,Tryz.ntmps121;go_wp2_with(first|(go_at_call 120;refine(mN p w1 j cF qV).mono ?_;rintro e w2 ⟨rfl,rE,pY⟩)|(go_at_call 110;refine OE.out.mono ?_;rintro e w1 (⟨x,hx,rfl,qI⟩|⟨⟨⟩,j,hx,⟨rfl,qV⟩,qI⟩)))
 ·exact VO
 ·exact UM
 rename_i hq;have hj:=(cT hx).1;rw[if_neg YM] at rE;have sS:=zh (HR.out.trans ((PR.bnd_ok hx).trans (if_neg YM)));have rZ:=qI.size;have OV:=pY.size;have Q8:Hid (GrL 3 105 eH p w [] [] (.slice none 0 0) j (w2.alloc (.map #[] 0))):=zh ⟨(qI.trans pY).trans (Ba (aC _ _)),Gro.first_at _ _ _ XJ,rE.later (aC _ _)⟩;have Q7:Hid (bQ jC fG (w2.alloc (.map #[] 0)) w2.heap.size 0 (eK fun s=>([]:List Fld).any fun x=>decide (x.1=s))):=zh ((bQ.made w2).ext fun _=>rfl);have PI:11<=w2.heap.size:=VS;have hkw:w.heap.size<=w2.heap.size:=VS;have HJ0:=zh hj;clear KV qI pY qV rE hx hq OE HR rZ OV hj;generalize w2.heap.size=km at *;go_loopw [5] (fun v wr=>∃(a:Option Addr)(c q F:Nat)(fs:List Fld)(css:List (List Value)),v=.slice a fs.length c/\Hid (GrL 3 105 eH p w fs css v q wr)/\Hid (bQ jC fG wr km fs.length (eK fun s=>fs.any fun x=>decide (x.1=s)))/\Hid (jV p.l most i=eJ p.l most (F+1) fs q)/\Hid (p.l.length<=F+q/\i<=q/\fs.length<=most)) (fun _ wr=>p.l.length-posOf wr p.pb)
 case atStart=>exact⟨none,0,j,p.l.length,[],[],rfl,Q8,Q7,sS,zh ⟨VS,by have:=HJ0.out;omega,Nat.zero_le _⟩⟩
 case round=>
  obtain⟨a,c,q,F,fs,css,rfl,HL,HM,qO,HB⟩:=hrel;rename World=>wr
  have yT:=HB.out.1;have zX:=HB.out.2.1;have PA:fs.length<=8:=by have:=HB.out.2.2;omega
  have BQ:=HL.out.at_.lt
  cases vA:dC p.l q with
  |false=>
   as_aux_lemma=>
    go_wp2_with(first|(go_at_call 114;refine(mU p w5 q km fs.length _ uO.out.at_ HM5.out PI VS).mono ?_;rintro e w6 (⟨x,hx,rfl,qY⟩|⟨s,j6,hx,⟨rfl,tW,hm6,GU⟩,qY⟩))|(go_at_call 182;refine(hM p wr q HL.out.at_).mono ?_;rintro e w5 ⟨rfl,hb5⟩;rw[vA];have uO:=zh (HL.out.next aS HW.out (Ba hb5) (HL.out.at_.later hb5));have HM5:=zh (HM.out.later hb5)))
    ·exact⟨rfl,Ran.bad' (by have e:=(freshP_noname vA).symm.trans hx;cases e;exact qO.out.trans (nV vA)) (off_S2 uO.out.off qY hkw)⟩
    rw[freshP_noname vA] at hx;cases hx
  |true=>
   as_aux_lemma=>
    go_wp2_with(first|(at_builtin;have O9:Off p.S w6 (((w7.setCell ⟨w6.heap.size,1,none⟩ (.int .i64 k)).setCell ⟨w6.heap.size,2,none⟩ (.slice sa sn sc)).alloc (bZ s k sa sn sc)):=Off.fresh (((Ba (S:=p.S) (aC w6 (bZ s 0 none 0 0))).trans qU).or w6.heap.size |>.trans (((Off.setCell (S:=fun b=>p.S b\/w6.heap.size<=b) w7 (.inr (Nat.le_refl _))).trans (Off.setCell (S:=fun b=>p.S b\/w6.heap.size<=b) _ (.inr (Nat.le_refl _)))).trans (Ba (aC _ _)))) (Nat.le_refl _);have A9:=AF.out.acc.stays aS (cV.of_off O9 fun b hb=>.inl W5);have tB:=A9.big;have sZ:=A9.own;refine wpList_append_lies _ rfl _ _ 24 rfl w.heap.size 105 i0 (.agg #[.string ByteArray.empty,.int .i64 0,.slice none 0 0]) 3 48 Tryz.underlying24 wO tS rZ rY rfl VS (.slice a fs.length c) fs.length css.flatten W7 (by simpa using sZ) ⟨w7.heap.size,0,none⟩ 1 1 [.string s,.int .i64 k,.slice sa sn sc] W7 rfl (World.news_of_block (cs:=#[.string s,.int .i64 k,.slice sa sn sc]) (t:=105) (fr:=(0,0)) (by simpa using bY ((w7.setCell ⟨w6.heap.size,1,none⟩ (.int .i64 k)).setCell ⟨w6.heap.size,2,none⟩ (.slice sa sn sc)) (bZ s k sa sn sc))) WF VS WL VS (by simpa using tB) (w7.heap.size+1) VY ?_)|(go_at_call 115;refine(typed_any p (w6.alloc (bZ s 0 none 0 0)) j6 (tW.later (aC _ _))).mono ?_;rintro e w7 (⟨x2,qD,rfl,qU⟩|⟨t,j2,qD,⟨k,sa,sn,sc,rfl,tI,sU,LO⟩,qU⟩)<;>have GW:=zh (qU.heap (fun e=>YD) (bY w6 (bZ s 0 none 0 0)))<;>obtain⟨d0,d1,d2,e0,e1,e2⟩:=bxT3 GW.out)|(go_at_call 114;refine(mU p w5 q km fs.length _ uO.out.at_ HM5.out PI VS).mono ?_;rintro e w6 (⟨x,hx,rfl,qY⟩|⟨s,j6,hx,⟨rfl,tW,hm6,GU⟩,qY⟩)<;>first|(have AF:=zh (uO.out.fresh aS HW.out (gD.of HM5.out) hkw qY tW))|skip)|(go_at_call 49;refine(fL p w5 q _ _ uO.out.at_).mono ?_;rintro e w5' (⟨DS,rfl,rfl⟩|⟨DS,rfl,LZ⟩))|(go_at_call 182;refine(hM p wr q HL.out.at_).mono ?_;rintro e w5 ⟨rfl,hb5⟩;rw[vA];have uO:=zh (HL.out.next aS HW.out (Ba hb5) (HL.out.at_.later hb5));have HM5:=zh (HM.out.later hb5)))
    ·(have C0:fs.length<most:=by simp at DS;omega);exact⟨rfl,Ran.bad' (qO.out.trans ((jW vA C0).trans (PR.bnd_bad hx))) (off_S2 uO.out.off qY hkw)⟩
    ·(have C0:fs.length<most:=by simp at DS;omega);exact⟨rfl,Ran.bad' (qO.out.trans ((jW vA C0).trans ((PR.bnd_ok hx).trans (PR.bnd_bad qD)))) (AF.out.off.trans ((Ba (aC _ _)).trans qU))⟩
    ·(have C0:fs.length<most:=by simp at DS;omega);intro g' cap' rH pT pL qW _;obtain⟨A3,NW,hf10,yP⟩:=AF.out.field HW.out qU sU tI GU pT rfl pL qW;obtain⟨q0,q1,q2,r0,r1,r2⟩:=bxT3 hf10;have tL:=zh A3;have hm7:=map_off (tW.later (aC _ _)) (hm6.later (aC w6 (bZ s 0 none 0 0))) qU
     have HM10:=zh ((hm7.of_block (yP.block km hm7.lt (by
      rintro(e|e)
      ·have:=hm6.lt;omega
      exact AF.out.acc.nemap (gD.of hm6) e))).ext fun z=>congrFun (any_push fs s t) z)
     have hj6:=pC hx;have uX:=zh (qO.out.trans ((jW vA C0).trans ((PR.bnd_ok hx).trans (PR.bnd_ok qD))));have HMr:=zh (more_any p rH j2 _ t k _ cF A3.at_ NW (by have:=kU qD;omega));have HJ:Hid (i<=j2):=zh VS;clear pT pL qW A3 NW hf10 yP hm7 tI sU qU GW O9 A9 tB sZ d0 d1 d2 e0 e1 e2 hx qD uO HM5 AF hm6 tW qY;go_wp2_with(go_at_call 184;refine HMr.out.mono ?_;rintro e rO (⟨x3,qJ,rfl,rA⟩|⟨bb,j3,qJ,⟨rfl,sK⟩,rA⟩))
     ·exact⟨rfl,Ran.bad' (uX.out.trans (PR.bnd_bad qJ)) (tL.out.off.trans rA)⟩
     ·rename_i tM;subst tM;have hR:=uX.out.trans ((PR.bnd_ok qJ).trans (if_pos rfl));have DO:=oW qJ;have wY:=zh (tL.out.next aS HW.out rA sK);go_ret;exact Ran.good hR ⟨_,_,_,rfl,by simpa using wY.out.acc.row aS,sK,by have:=HJ.out;omega⟩ wY.out.off
     rename_i tM;subst tM;have hR:=uX.out.trans ((PR.bnd_ok qJ).trans (if_neg VY));have DO:=oW qJ;have wY:=zh (tL.out.next aS HW.out rA sK);have BB:=zh (map_off tL.out.at_ HM10.out rA);have NS:=sK.lt;have BH:=HJ.out;obtain⟨F',uJ⟩:∃F',F=F'+1:=⟨F-1,VS⟩;have HR':=zh hR;have HLm:=zh C0;clear hR C0 sK rA qJ;go_roundw
     case rel=>
      subst uJ;exact⟨some ⟨g',0,none⟩,cap',j3,F',fs++[(s,t)],_,VY,wY,by simpa using BB,HR',zh ⟨VS,VS,by have:=HLm.out;simp;omega⟩⟩
     case measure=>
      rw[wY.out.at_.pos,HL.out.at_.pos];omega
    (have C0:¬fs.length<most:=by simp at DS;omega);exact⟨rfl,Ran.bad (qO.out.trans (fieldsFrom_full vA C0)) (uO.out.off.trans (Ba LZ))⟩
theorem R6{p:Prop}(h:p:=by
 refine hK.out _ _ trivial (fun hS=>?_);clear hK K;refine zt 4 (.int .i64 ((en:Int)+2 ^ kk)) rfl (fun W hW=>by go_simp;exact bits_or pS PS) ?_;refine zq 5 (.pointer (some ⟨b5,5,none⟩)) rfl ?_;try simp only[zn]
 refine zr 6 rfl (fun K hK=>?_);try simp only[z1,z2,z3]
 obtain⟨⟨c0,c1,c2,c3,c4,c5,c6,c7,c8,c9,zP,zO⟩,f0,f1,f2,f3,f4,f5,f6,f7,f8,f9,AQ,AP⟩:=cY uK.out.loc;go_simp;clear c0 c1 c2 c3 c4 c5 c6 c7 c8 c9 zP zO f0 f1 f2 f3 f4 f5 f6 f7 f8 f9 AQ AP;refine hK.out _ _ trivial (fun hS=>?_);clear hK K;try simp only[zn]
 refine wpAnyH_done VT ?_ _;clear hS;have vI:Hid (Mk 47 jX p (p.S2 km) p.S w b5 #[.string nm,.bool pub,.slice pa pn pc,.int .i64 k,.slice sa sn sc,.int .i64 ((en+2 ^ kk:Nat):Int),.int .i64 0,.int .i64 0,.string ⟨#[]⟩,.string ⟨#[]⟩,.slice none 0 0,.slice none 0 0] (fun W=>(((True/\(fun W=>bQ jC fG W km (n+1) (eK fun z=>decide (z=nm)||known z)) W)/\(fun W=>aO 3 eH (fun b=>w.heap.size<b/\b≠b5/\b≠km) W (.slice pa pn pc) ps) W)/\(fun W=>eX (fun b=>w.heap.size<b/\b≠b5/\b≠km) W t [.int .i64 k,.slice sa sn sc]) W)/\(fun W=>∀j,j<bF.length->W.cell? ⟨g,0+j,none⟩=some (.string (bF.getD j ByteArray.empty))) W) (q+1) (AK.setCell ⟨b5,5,none⟩ (.int .i64 ((en:Int)+2 ^ kk)))):=zh (uK.out.put HW.out (Off.setCell (S:=fun b=>b=b5) AK rfl) (by rw[aW uK.out.loc,pow_cast];rfl));have wS:Hid (eM p.l cR 0 GR=eM p.l (cR.drop (kk+1)) ((en+2 ^ kk:Nat):Int) (q+1)):=zh (by rw[qO.out,E0.out,hq,KM.out,if_pos rfl];rfl);have HJ2:Hid (GR<=q+1):=zh (by have:=HJ.out;omega);have AT:Hid (en+2 ^ kk<2 ^ (kk+1)):=zh (by rw[Nat.pow_succ];omega);generalize AK.setCell ⟨b5,5,none⟩ (.int .i64 ((en:Int)+2 ^ kk))=H4 at *;go_wp2_with fail;go_roundw;case rel=>exact⟨kk+1,q+1,en+2 ^ kk,VS,WH,AT,vI,wS,HJ2⟩
 case measure=>simp[intOf];omega):p:=h
theorem UC{p:Prop}(h:p:=by
 exact Ran.good (J4.out.trans (PR.bnd_ok DH)) ⟨pa,pn,pc,k,sa,sn,sc,op,n1,s1,m1,a1,m2,qa,a2,m3,qb,rfl,bD.wide ⟨_,_,_,_,_,_,_,_,_,rfl,tT,sN,OY,vB⟩ (fun b hb _=>Nat.le_of_lt hb.1),qW,by have:=HIq.out;omega,PE⟩ DL):p:=h
def FnV(p:Prs)(w:World)(km n:Nat)(known:bA->Bool)(i:Nat)(f:Fnc)(j:Nat)(e:Ending)(w':World):Prop:=
 ∃pa pn pc k sa sn sc op n1 s1 m1 a1 m2 c1 a2 m3 c2,e=.returned (oBx11 f.name f.pub pa pn pc k sa sn sc f.effects op n1 s1 m1 a1 m2 c1 a2 m3 c2)/\
  hO (bP w.heap.size) w' f [.string f.name,.bool f.pub,.slice pa pn pc,.int .i64 k,.slice sa sn sc,.int .i64 f.effects,.int .i64 op,.int .i64 n1,.string s1,.string m1,.slice a1 m2 c1,.slice a2 m3 c2]/\p.At w' j/\i<j/\bQ jC fG w' km (n+1) (eK fun z=>decide (z=f.name)||known z)
theorem effectL_at{l:List Tok}{k:Nat}(hk:k<4){n:Int}{q:Nat}:eM l (cR.drop k) n q=if isP l q (bF.getD k ByteArray.empty) then eM l (cR.drop (k+1)) (n+cA (bF.getD k ByteArray.empty)) (q+1) else eM l (cR.drop (k+1)) n q:=by
 match k,hk with
 |0,_=>rfl
 |1,_=>rfl
 |2,_=>rfl
 |3,_=>rfl
section
variable {l:List Tok} {i j q:Nat} {fits:Bool} {en:Int}
theorem bang_no(h:isP l i jT=false):bangP l i fits=.ok ((0,fits),i):=by unfold bangP;rw[if_neg (by rw[h];simp)]
theorem bang_bad(h:isP l i jT=true){x:Int×Int}(he:mF l i fits jT=.error x):bangP l i fits=.error x:=by unfold bangP;rw[if_pos h,he];rfl
theorem bang_yes(h:isP l i jT=true)(he:mF l i fits jT=.ok ((),j))(hf:eM l cR 0 j=(en,q))(hn:¬en=0):bangP l i fits=.ok ((en,true),q):=by unfold bangP;rw[if_pos h,he];simp only[PR.bnd,hf];rw[if_pos hn]
theorem bang_zero(h:isP l i jT=true)(he:mF l i fits jT=.ok ((),j))(hf:eM l cR 0 j=(en,q))(hn:en=0):bangP l i fits=.error ((aM l q).pos,11):=by unfold bangP;rw[if_pos h,he];simp only[PR.bnd,hf];rw[if_neg (by simp[hn])];rfl
end
theorem bit_pow{k:Nat}(hk:k<4):cA (bF.getD k ByteArray.empty)=((2 ^ k:Nat):Int):=by
 match k,hk with
 |0,_=>rfl
 |1,_=>rfl
 |2,_=>rfl
 |3,_=>rfl
theorem pow_cast(en k:Nat):((en+2 ^ k:Nat):Int)=(en:Int)+2 ^ k:=VY
theorem bits_or{k en:Nat}(hk:k<4)(he:en<2 ^ k):bits BinOp.or IntKind.i64 (en:Int) (2 ^ k)=(en:Int)+2 ^ k:=by
 match k,hk with
 |0,_=>match en,he with|0,_=>decide
 |1,_=>match en,he with|0,_=>decide|1,_=>decide
 |2,_=>match en,he with|0,_=>decide|1,_=>decide|2,_=>decide|3,_=>decide
 |3,_=>match en,he with|0,_=>decide|1,_=>decide|2,_=>decide|3,_=>decide|4,_=>decide|5,_=>decide|6,_=>decide|7,_=>decide
theorem function_any(p:Prs)(hX:ExpAll p)(w:World)(i km n:Nat)(known:bA->Bool)(h:p.At w i)(hm:bQ jC fG w km n (eK known))(hk:11<=km)(hn:n<1000000):
  Calls Tryz.prog 119 #[.pointer (some ⟨p.pb,0,none⟩),.map (some km)] w (Ran (p.S2 km) w (mT p.l i known) (FnV p w km n known i)):=by
 have HW:=zh h;have HX:=zh hX;have Q7:=zh hm;have rD:=h.len;have hkm:km<w.heap.size:=hm.lt;have uS:=h.blt;have ET:=(h.nemap (gD.of hm)).1;have LR:i<=(if isP p.l i nG=true then i+1 else i):=by split<;>omega
 have HR:Hid (mT p.l i known=(dN p.l (if isP p.l i nG=true then i+1 else i) kFn).bnd fun _ j=>(gH p.l j known).bnd fun name j2=>(jV p.l 6 j2).bnd fun ps j3=>(kD p.l j3).bnd fun t j4=>(bangP p.l j4 (decide (bL t<=4))).bnd fun ef j5=>
  (mF p.l j5 ef.2 kEq).bnd fun _ j6=>(mC p.l j6 fD).bnd fun e j7=>.ok (⟨name,isP p.l i nG,ps,t,ef.1,e⟩,j7)):=zh rfl
 clear h hX hm;go_enter Tryz.func119,Tryz.ntmps119;go_wp2_with(go_at_call 120;refine(mN p (w.alloc (.cells jX 47)) i nG (HW.out.later (aC _ _))).mono ?_;rintro e w2 ⟨rfl,rE,pY⟩);have rY:=pY.size;have rZ:(w.alloc (.cells jX 47)).heap.size=w.heap.size+1:=VY;generalize (if isP p.l i nG=true then i+1 else i)=i1 at *;generalize isP p.l i nG=pub at *;have yL:Hid (Mk 47 jX p (p.S2 km) (p.S2 km) w w2.heap.size #[.string ⟨#[]⟩,.bool pub,.slice none 0 0,.int .i64 0,.slice none 0 0,.int .i64 0,.int .i64 0,.int .i64 0,.string ⟨#[]⟩,.string ⟨#[]⟩,.slice none 0 0,.slice none 0 0] (fun _=>True) i1 (w2.alloc (dU ⟨#[]⟩ pub none 0 0 0 none 0 0 0 0 0 ⟨#[]⟩ ⟨#[]⟩ none 0 0 none 0 0))):=zh ⟨((Ba (aC w (.cells jX 47))).trans ((pY.mono fun _ hb=>.inl hb).trans (Ba (aC w2 _)))),aD (aC w2 _) (pY.heap (by show ¬w.heap.size=p.pb;omega) (bY w (.cells jX 47))),bY w2 _,rE.later (aC w2 _),trivial,dZ.true,VS,fun b hb=>.inl hb,fun e=>V4,fun e=>V4,.inl rfl⟩;have HM3:Hid (bQ jC fG (w2.alloc (dU ⟨#[]⟩ pub none 0 0 0 none 0 0 0 0 0 ⟨#[]⟩ ⟨#[]⟩ none 0 0 none 0 0)) km n (eK known)):=zh ((map_off (HW.out.later (aC _ _)) (Q7.out.later (aC w (.cells jX 47))) pY).later (aC w2 _));have hb5w:w.heap.size<w2.heap.size:=VS;clear rE pY Q7;generalize w2.heap.size=b5 at *;generalize w2.alloc (dU ⟨#[]⟩ pub none 0 0 0 none 0 0 0 0 0 ⟨#[]⟩ ⟨#[]⟩ none 0 0 none 0 0)=w3 at *;have LN:¬km=b5:=VS;have hnb6:¬b5=km:=VS;clear rZ rY;go_wp2_with(go_at_call 110;refine(dD p w3 i1 kFn yL.out.at_).mono ?_;rintro e w4 (⟨x4,rC,rfl,qH⟩|⟨⟨⟩,i4,rC,⟨rfl,sQ⟩,qH⟩))
 ·exact⟨rfl,Ran.bad' (HR.out.trans (PR.bnd_bad rC)) (yL.out.off.trans (qH.mono fun _ h=>.inl h))⟩
 have wG:=zh (yL.out.nextP qH sQ);have HM4:=zh (map_off yL.out.at_ HM3.out qH);have HR4:=zh (HR.out.trans (PR.bnd_ok rC));have hi4:=(cT rC).1;have RB:Hid (i<i4):=zh VS;clear rC qH sQ yL HM3 HR hi4 LR;go_wp2_with(go_at_call 114;refine(mU p w4 i4 km n known wG.out.at_ HM4.out hk hn).mono ?_;rintro e w5 (⟨x5,rP,rfl,qS⟩|⟨nm,i5,rP,⟨rfl,tG,hm5,tT⟩,qS⟩)<;>first|(have uO:=zh (wG.out.next qS tG);obtain⟨⟨c0,c1,c2,c3,c4,c5,c6,c7,c8,c9,zP,zO⟩,f0,f1,f2,f3,f4,f5,f6,f7,f8,f9,AQ,AP⟩:=cY uO.out.loc)|skip)
 ·exact⟨rfl,Ran.bad' (HR4.out.trans (PR.bnd_bad rP)) (wG.out.off.trans qS)⟩
 have HR5:=zh (HR4.out.trans (PR.bnd_ok rP));have hi5:=pC rP;have HI5:Hid (i<i5):=zh (by have:=RB.out;omega);clear c0 c1 c2 c3 c4 c5 c6 c7 c8 c9 zP zO f0 f1 f2 f3 f4 f5 f6 f7 f8 f9 AQ AP;have MX:Hid (Mk 47 jX p (p.S2 km) p.S w b5 #[.string nm,.bool pub,.slice none 0 0,.int .i64 0,.slice none 0 0,.int .i64 0,.int .i64 0,.int .i64 0,.string ⟨#[]⟩,.string ⟨#[]⟩,.slice none 0 0,.slice none 0 0] (fun W=>True/\(fun W=>bQ jC fG W km (n+1) (eK fun z=>decide (z=nm)||known z)) W) i5 (w5.setCell ⟨b5,0,none⟩ (.string nm))):=zh ((((uO.out.put HW.out (cells':=#[.string nm,.bool pub,.slice none 0 0,.int .i64 0,.slice none 0 0,.int .i64 0,.int .i64 0,.int .i64 0,.string ⟨#[]⟩,.string ⟨#[]⟩,.slice none 0 0,.slice none 0 0]) (Off.setCell (S:=fun b=>b=b5) w5 rfl) (by rw[aW uO.out.loc];rfl)).shrink (S':=p.S) (fun b hb=>.inl hb) rfl)).add (F:=(fun W=>bQ jC fG W km (n+1) (eK fun z=>decide (z=nm)||known z))) (hm5.setCell LN _) (dZ.map (fun e=>Or.elim e ET LN)));clear rP qS tG hm5 wG HM4 HR4 uO hi5 RB;generalize w5.setCell ⟨b5,0,none⟩ (.string nm)=w5' at *;go_wp2_with(go_at_call 121;refine(fields_any p 6 VU w5' i5 MX.out.at_).mono ?_;rintro e w6 (⟨x6,tP,rfl,qY⟩|⟨ps,i6,tP,⟨pa,pn,pc,rfl,hps,tW,PK⟩,qY⟩)<;>first|(have AF:=zh (MX.out.nextP qY tW);obtain⟨⟨c0,c1,c2,c3,c4,c5,c6,c7,c8,c9,zP,zO⟩,f0,f1,f2,f3,f4,f5,f6,f7,f8,f9,AQ,AP⟩:=cY AF.out.loc)|skip)
 ·exact⟨rfl,Ran.bad' (HR5.out.trans (PR.bnd_bad tP)) (MX.out.off.trans (qY.mono fun _ h=>.inl h))⟩
 have HR6:=zh (HR5.out.trans (PR.bnd_ok tP));have HI6:Hid (i<i6):=zh (by have:=HI5.out;omega);clear c0 c1 c2 c3 c4 c5 c6 c7 c8 c9 zP zO f0 f1 f2 f3 f4 f5 f6 f7 f8 f9 AQ AP;have hF6:aO 3 eH (fun b=>w.heap.size<b/\b≠b5/\b≠km) w6 (.slice pa pn pc) ps:=hps.moves aS (fun b hb _=>⟨by have hb:w5'.heap.size<=b:=hb;have:=MX.out.lt;exact⟨VS,VS,VS⟩,fun _ _ h=>h⟩) VU;have OH:Hid (Mk 47 jX p (p.S2 km) p.S w b5 #[.string nm,.bool pub,.slice pa pn pc,.int .i64 0,.slice none 0 0,.int .i64 0,.int .i64 0,.int .i64 0,.string ⟨#[]⟩,.string ⟨#[]⟩,.slice none 0 0,.slice none 0 0] (fun W=>(True/\(fun W=>bQ jC fG W km (n+1) (eK fun z=>decide (z=nm)||known z)) W)/\(fun W=>aO 3 eH (fun b=>w.heap.size<b/\b≠b5/\b≠km) W (.slice pa pn pc) ps) W) i6 (w6.setCell ⟨b5,2,none⟩ (.slice pa pn pc))):=zh ((AF.out.add (F:=(fun W=>aO 3 eH (fun b=>w.heap.size<b/\b≠b5/\b≠km) W (.slice pa pn pc) ps)) hF6 (dZ.row aS VU (stbl_S fun b hb=>⟨fun e=>by have:=hb.1;omega,hb.2.1⟩))).put HW.out (cells':=#[.string nm,.bool pub,.slice pa pn pc,.int .i64 0,.slice none 0 0,.int .i64 0,.int .i64 0,.int .i64 0,.string ⟨#[]⟩,.string ⟨#[]⟩,.slice none 0 0,.slice none 0 0]) (Off.setCell (S:=fun b=>b=b5) w6 rfl) (by rw[aW AF.out.loc];rfl));clear tP qY tW hps hF6 HR5 AF HI5 PK MX;generalize w6.setCell ⟨b5,2,none⟩ (.slice pa pn pc)=w6' at *;go_wp2_with(go_at_call 115;refine(typed_any p w6' i6 OH.out.at_).mono ?_;rintro e w7 (⟨x7,sA,rfl,qU⟩|⟨t,i7,sA,⟨k,sa,sn,sc,rfl,tI,sU,LO⟩,qU⟩)<;>first|(have ON:=zh (OH.out.nextP qU sU);obtain⟨⟨c0,c1,c2,c3,c4,c5,c6,c7,c8,c9,zP,zO⟩,f0,f1,f2,f3,f4,f5,f6,f7,f8,f9,AQ,AP⟩:=cY ON.out.loc)|skip)
 ·exact⟨rfl,Ran.bad' (HR6.out.trans (PR.bnd_bad sA)) (OH.out.off.trans (qU.mono fun _ h=>.inl h))⟩
 have QQ:=zh (HR6.out.trans (PR.bnd_ok sA));have HI7:Hid (i<i7):=zh (by have:=HI6.out;omega);have HLv:Hid (bL t<=9000000000000000000):=zh (by have:=kU sA;omega);have hF7:eX (fun b=>w.heap.size<b/\b≠b5/\b≠km) w7 t [.int .i64 k,.slice sa sn sc]:=cB.wide tI (fun b hb _=>by have hb:w6'.heap.size<=b:=hb;have:=OH.out.lt;exact⟨VS,VS,VS⟩);clear c0 c1 c2 c3 c4 c5 c6 c7 c8 c9 zP zO f0 f1 f2 f3 f4 f5 f6 f7 f8 f9 AQ AP;have JZ:Hid (Mk 47 jX p (p.S2 km) p.S w b5 #[.string nm,.bool pub,.slice pa pn pc,.int .i64 k,.slice sa sn sc,.int .i64 0,.int .i64 0,.int .i64 0,.string ⟨#[]⟩,.string ⟨#[]⟩,.slice none 0 0,.slice none 0 0] (fun W=>((True/\(fun W=>bQ jC fG W km (n+1) (eK fun z=>decide (z=nm)||known z)) W)/\(fun W=>aO 3 eH (fun b=>w.heap.size<b/\b≠b5/\b≠km) W (.slice pa pn pc) ps) W)/\(fun W=>eX (fun b=>w.heap.size<b/\b≠b5/\b≠km) W t [.int .i64 k,.slice sa sn sc]) W) i7 ((w7.setCell ⟨b5,3,none⟩ (.int .i64 k)).setCell ⟨b5,4,none⟩ (.slice sa sn sc))):=zh ((ON.out.add (F:=(fun W=>eX (fun b=>w.heap.size<b/\b≠b5/\b≠km) W t [.int .i64 k,.slice sa sn sc])) hF7 (dZ.enc cB (stbl_S fun b hb=>⟨fun e=>by have:=hb.1;omega,hb.2.1⟩))).put HW.out (cells':=#[.string nm,.bool pub,.slice pa pn pc,.int .i64 k,.slice sa sn sc,.int .i64 0,.int .i64 0,.int .i64 0,.string ⟨#[]⟩,.string ⟨#[]⟩,.slice none 0 0,.slice none 0 0]) ((Off.refl (fun b=>b=b5) w7).one.one) (by rw[aW (aW ON.out.loc _) _];rfl));obtain⟨⟨c0,c1,c2,c3,c4,c5,c6,c7,c8,c9,zP,zO⟩,f0,f1,f2,f3,f4,f5,f6,f7,f8,f9,AQ,AP⟩:=cY ON.out.loc;clear sA qU sU tI hF7 HR6 HI6 LO OH;go_wp2_with(go_at_call 117;refine(levels_any _ t _ k _ _ (Nat.le_refl _) HLv.out JZ.out.enc.2).mono ?_;rintro e w8 ⟨rfl,qM⟩);clear c0 c1 c2 c3 c4 c5 c6 c7 c8 c9 zP zO f0 f1 f2 f3 f4 f5 f6 f7 f8 f9 AQ AP;have GH:=zh (JZ.out.below qM);have HD:Hid (decide ((bL t:Int)<=4)=decide (bL t<=4)):=zh WX;skip
 cases hb:isP p.l i7 jT with
 |false=>
  skip;go_wp2_with(go_at_call 112;refine(fU p w8 i7 jT GH.out.at_).mono ?_;rintro e w9 ⟨rfl,rT⟩;rw[hb]);have C6:=zh (GH.out.below rT);have HIq:=HI7;have QP:=zh (QQ.out.trans (PR.bnd_ok (bang_no hb)));go_wp2_with(go_at_call 116;refine(end_any p w9 i7 _ kEq C6.out.at_).mono ?_;rintro e w20 (⟨x20,xP,rfl,AZ⟩|⟨⟨⟩,i20,xP,⟨rfl,JM⟩,AZ⟩))
  ·rw[HD.out] at xP;exact⟨rfl,Ran.bad' (QP.out.trans (PR.bnd_bad xP)) (C6.out.off.trans (AZ.mono fun _ h=>.inl h))⟩
  rw[HD.out] at xP;have A7:=zh (C6.out.nextP AZ JM);have J4:=zh (QP.out.trans (PR.bnd_ok xP));have hi20:=endP_ok xP;clear xP AZ JM;go_wp2_with(go_at_call 118;refine(mQ p HX.out w20 i20 fD A7.out.at_).mono ?_;rintro e LB (⟨x21,DH,rfl,DM⟩|⟨x,i21,DH,⟨⟨op,n1,s1,m1,a1,m2,qa,a2,m3,qb,rfl,hex⟩,P2,hij21⟩,DM⟩)<;>first|(have wW:=zh (A7.out.nextP DM P2);obtain⟨⟨c0,c1,c2,c3,c4,c5,c6,c7,c8,c9,zP,zO⟩,f0,f1,f2,f3,f4,f5,f6,f7,f8,f9,AQ,AP⟩:=cY wW.out.loc;obtain⟨⟨r0,r1,r2,r3,r4,r5,r6,r7,r8,r9,vX,vW⟩,g0,g1,g2,g3,g4,g5,g6,g7,g8,g9,g10,g11⟩:=cY wW.out.res)|skip)
  ·exact⟨rfl,Ran.bad' (J4.out.trans (PR.bnd_bad DH)) (A7.out.off.trans (DM.mono fun _ h=>.inl h))⟩
  have P7:(fun W=>aU (fun b=>w.heap.size<b/\b≠b5/\b≠km) W x [.int .i64 op,.int .i64 n1,.string s1,.string m1,.slice a1 m2 qa,.slice a2 m3 qb]) LB:=aG.wide hex (fun b hb _=>YO);have zF:Mk 47 jX p (p.S2 km) p.S w b5 #[.string nm,.bool pub,.slice pa pn pc,.int .i64 k,.slice sa sn sc,.int .i64 0,.int .i64 op,.int .i64 n1,.string s1,.string m1,.slice a1 m2 qa,.slice a2 m3 qb] (fun W=>(fun W=>((True/\(fun W=>bQ jC fG W km (n+1) (eK fun z=>decide (z=nm)||known z)) W)/\(fun W=>aO 3 eH (fun b=>w.heap.size<b/\b≠b5/\b≠km) W (.slice pa pn pc) ps) W)/\(fun W=>eX (fun b=>w.heap.size<b/\b≠b5/\b≠km) W t [.int .i64 k,.slice sa sn sc]) W) W/\(fun W=>aU (fun b=>w.heap.size<b/\b≠b5/\b≠km) W x [.int .i64 op,.int .i64 n1,.string s1,.string m1,.slice a1 m2 qa,.slice a2 m3 qb]) W) i21 ((((((LB.setCell ⟨b5,6,none⟩ (.int .i64 op)).setCell ⟨b5,7,none⟩ (.int .i64 n1)).setCell ⟨b5,8,none⟩ (.string s1)).setCell ⟨b5,9,none⟩ (.string m1)).setCell ⟨b5,10,none⟩ (.slice a1 m2 qa)).setCell ⟨b5,11,none⟩ (.slice a2 m3 qb)):=(wW.out.add (F:=(fun W=>aU (fun b=>w.heap.size<b/\b≠b5/\b≠km) W x [.int .i64 op,.int .i64 n1,.string s1,.string m1,.slice a1 m2 qa,.slice a2 m3 qb])) P7 (dZ.enc aG (stbl_S fun b hb=>⟨fun e=>by have:=hb.1;omega,hb.2.1⟩))).put HW.out ((Off.refl (fun b=>b=b5) LB).one.one.one.one.one.one) (by rw[aW (aW (aW (aW (aW (aW wW.out.loc _) _) _) _) _) _];rfl);have CC:∀b,b=w.heap.size->¬(fun b=>w.heap.size<b/\b≠b5/\b≠km) b:=fun b hb hn=>by have:=hn.1;omega
  have hD:=zF.done HW.out (set12_off _ w.heap.size (.string nm) (.bool pub) (.slice pa pn pc) (.int .i64 k) (.slice sa sn sc) (.int .i64 0) (.int .i64 op) (.int .i64 n1) (.string s1) (.string m1) (.slice a1 m2 qa) (.slice a2 m3 qb)) ((((dZ.true.and (dZ.map VS)).and (dZ.row aS VU CC)).and (dZ.enc cB CC)).and (dZ.enc aG CC));unfold set12 at hD;refine bodyPost_ret (v:=oBx11 nm pub pa pn pc k sa sn sc 0 op n1 s1 m1 a1 m2 qa a2 m3 qb) YZ rfl ?_;obtain⟨⟨⟨⟨⟨-,PE⟩,sN⟩,OY⟩,vB⟩,qW,DL⟩:=hD;exact UC
 |true=>
  go_wp2_with(go_at_call 112;refine(fU p w8 i7 jT GH.out.at_).mono ?_;rintro e w9 ⟨rfl,rT⟩;rw[hb]);have C6:=zh (GH.out.below rT);clear rT GH;go_wp2_with(go_at_call 116;refine(end_any p w9 i7 _ jT C6.out.at_).mono ?_;rintro e rH (⟨x10,uP,rfl,uD⟩|⟨⟨⟩,GR,uP,⟨rfl,wQ⟩,uD⟩))
  ·rw[HD.out] at uP;exact⟨rfl,Ran.bad' (QQ.out.trans (PR.bnd_bad (bang_bad hb uP))) (C6.out.off.trans (uD.mono fun _ h=>.inl h))⟩
  rw[HD.out] at uP;have D6:=zh uP;have M0:=zh (C6.out.nextP uD wQ);have hi10:=endP_ok uP;have HI10:Hid (i<GR):=zh (by have:=HI7.out;omega);have HJ0:Hid (i7<GR):=zh VS;clear wQ uD uP C6 hi10;go_wp2_with(go_at_call 153;refine(fieldsEff rH M0.out.at_.spc).mono ?_;rintro e vL ⟨rfl,rfl⟩);have hb510:=M0.out.lt;have HS11:Hid (Mk 47 jX p (p.S2 km) p.S w b5 #[.string nm,.bool pub,.slice pa pn pc,.int .i64 k,.slice sa sn sc,.int .i64 0,.int .i64 0,.int .i64 0,.string ⟨#[]⟩,.string ⟨#[]⟩,.slice none 0 0,.slice none 0 0] (fun W=>(((True/\(fun W=>bQ jC fG W km (n+1) (eK fun z=>decide (z=nm)||known z)) W)/\(fun W=>aO 3 eH (fun b=>w.heap.size<b/\b≠b5/\b≠km) W (.slice pa pn pc) ps) W)/\(fun W=>eX (fun b=>w.heap.size<b/\b≠b5/\b≠km) W t [.int .i64 k,.slice sa sn sc]) W)/\(fun W=>∀j,j<bF.length->W.cell? ⟨rH.heap.size,0+j,none⟩=some (.string (bF.getD j ByteArray.empty))) W) GR (rH.alloc (.cells #[.string nI,.string kNet,.string nJ,.string jD] 9))):=zh ((M0.out.below (aC rH (.cells (bF.map Value.string).toArray 9))).add (F:=(fun W=>∀j,j<bF.length->W.cell? ⟨rH.heap.size,0+j,none⟩=some (.string (bF.getD j ByteArray.empty)))) (effCells rH) (dZ.cells (fun e=>Or.elim e (fun e=>by have e:rH.heap.size=p.pb:=e;omega) (fun e=>VS))));generalize rH.alloc (.cells #[.string nI,.string kNet,.string nJ,.string jD] 9)=vL at *;generalize rH.heap.size=g at *;clear M0;go_loopw [35] (fun c wr=>∃(kk q en:Nat),kk<=4/\c=.int .i64 (kk:Int)/\Hid (en<2 ^ kk)/\Hid (Mk 47 jX p (p.S2 km) p.S w b5 #[.string nm,.bool pub,.slice pa pn pc,.int .i64 k,.slice sa sn sc,.int .i64 (en:Int),.int .i64 0,.int .i64 0,.string ⟨#[]⟩,.string ⟨#[]⟩,.slice none 0 0,.slice none 0 0] (fun W=>(((True/\(fun W=>bQ jC fG W km (n+1) (eK fun z=>decide (z=nm)||known z)) W)/\(fun W=>aO 3 eH (fun b=>w.heap.size<b/\b≠b5/\b≠km) W (.slice pa pn pc) ps) W)/\(fun W=>eX (fun b=>w.heap.size<b/\b≠b5/\b≠km) W t [.int .i64 k,.slice sa sn sc]) W)/\(fun W=>∀j,j<bF.length->W.cell? ⟨g,0+j,none⟩=some (.string (bF.getD j ByteArray.empty))) W) q wr)/\Hid (eM p.l cR 0 GR=eM p.l (cR.drop kk) (en:Int) q)/\Hid (GR<=q)) (fun c _=>4-(intOf c).toNat)
  case atStart=>exact⟨0,GR,0,VS,rfl,zh VU,by simpa using HS11,zh rfl,zh (Nat.le_refl _)⟩
  case round=>
   obtain⟨kk,q,en,hk4,rfl,HEn,HS,qO,HJ⟩:=hrel;(rename World=>wr);have hen0:=HEn.out;by_cases pS:kk<4
   ·have hc:=HS.out.enc.2 kk pS;rw[Nat.zero_add] at hc;have E0:=zh (effectL_at (l:=p.l) (n:=(en:Int)) (q:=q) pS);have KM:=zh (bit_pow pS);generalize bF.getD kk ByteArray.empty=word at hc E0 KM
    cases hq:isP p.l q word with
    |true=>
     ·skip;have PS:=HEn.out;clear hen0;go_wp2_with(go_at_call 120;refine(fK p wr q word HS.out.at_ hq).mono ?_;rintro e tR ⟨rfl,JO,IT⟩);have EB:=zh (HS.out.nextP IT JO);clear JO IT hc;refine wp_region_held_drew (S:=(fun _=>True)) VT trivial fun hS=>?_;refine zq 0 (.pointer (some ⟨b5,5,none⟩)) rfl ?_;refine zq 2 (.string word) rfl ?_;(try simp only[zn]);refine wpAnyH_ready (rs:=[1,3]) VT VY ?_;refine AllReadyH.cons rfl (fun K hK=>?_) (AllReadyH.cons rfl (fun K hK=>?_) AllReadyH.nil)
      ·rw[if_pos VT];(try simp only[z1,z2,z3]);obtain⟨⟨c0,c1,c2,c3,c4,c5,c6,c7,c8,c9,zP,zO⟩,f0,f1,f2,f3,f4,f5,f6,f7,f8,f9,AQ,AP⟩:=cY (EB.out.below (aE _)).loc;go_simp;clear c0 c1 c2 c3 c4 c5 c6 c7 c8 c9 zP zO f0 f1 f2 f3 f4 f5 f6 f7 f8 f9 AQ AP;refine hK.out _ _ trivial (fun hS=>?_);clear hK K;(try simp only[zn]);refine zr 3 rfl (fun K hK=>?_);(try simp only[z1,z2,z3]);go_simp;refine(iF word tR.drew (EB.out.below (aE _)).at_.spc).mono ?_;rintro e AK ⟨rfl,A1⟩;rw[KM.out];have uK:=zh ((EB.out.below (aE _)).below A1);exact R6
      rw[if_pos VT];(try simp only[z1,z2,z3]);go_simp;refine(iF word tR.drew (EB.out.below (aE _)).at_.spc).mono ?_;rintro e AK ⟨rfl,A1⟩;rw[KM.out];have uK:=zh ((EB.out.below (aE _)).below A1);refine hK.out _ _ trivial (fun hS=>?_);clear hK K;(try simp only[zn]);refine zr 1 rfl (fun K hK=>?_);(try simp only[z1,z2,z3]);obtain⟨⟨c0,c1,c2,c3,c4,c5,c6,c7,c8,c9,zP,zO⟩,f0,f1,f2,f3,f4,f5,f6,f7,f8,f9,AQ,AP⟩:=cY uK.out.loc;go_simp;clear c0 c1 c2 c3 c4 c5 c6 c7 c8 c9 zP zO f0 f1 f2 f3 f4 f5 f6 f7 f8 f9 AQ AP;exact R6
    |false=>
     ·skip;go_wp2_with(go_at_call 120;refine(bH p wr q word HS.out.at_ hq).mono ?_;rintro e tR ⟨rfl,JO,IT⟩);have EB:=zh (HS.out.nextP IT JO);have wS:Hid (eM p.l cR 0 GR=eM p.l (cR.drop (kk+1)) (en:Int) q):=zh (by rw[qO.out,E0.out,hq,if_neg VY]);have AT:Hid (en<2 ^ (kk+1)):=zh (by rw[Nat.pow_succ];omega);clear JO IT hc;go_roundw;(case rel=>exact⟨kk+1,q,en,VS,WH,AT,EB,wS,HJ⟩);case measure=>simp[intOf];omega
   have hk:kk=4:=VS;subst hk
   ·skip;have HEf:Hid (eM p.l cR 0 GR=((en:Int),q)):=zh qO.out;obtain⟨⟨c0,c1,c2,c3,c4,c5,c6,c7,c8,c9,zP,zO⟩,f0,f1,f2,f3,f4,f5,f6,f7,f8,f9,AQ,AP⟩:=cY HS.out.loc;go_wp2_with(go_at_call 49;refine(fL p wr q _ _ HS.out.at_).mono ?_;rintro e w16 (⟨he,rfl,rfl⟩|⟨he,rfl,DV⟩))
    ·have HIq:Hid (i<q):=zh (by have:=HI10.out;have:=HJ.out;omega);have QP:=zh (QQ.out.trans (PR.bnd_ok (bang_yes hb D6.out HEf.out YW)));clear c0 c1 c2 c3 c4 c5 c6 c7 c8 c9 zP zO f0 f1 f2 f3 f4 f5 f6 f7 f8 f9 AQ AP;clear he;go_wp2_with(go_at_call 116;refine(end_any p wr q _ kEq HS.out.at_).mono ?_;rintro e w20 (⟨x20,xP,rfl,AZ⟩|⟨⟨⟩,i20,xP,⟨rfl,JM⟩,AZ⟩))
     ·exact⟨rfl,Ran.bad' (QP.out.trans (PR.bnd_bad xP)) (HS.out.off.trans (AZ.mono fun _ h=>.inl h))⟩
     skip;have A7:=zh (HS.out.nextP AZ JM);have J4:=zh (QP.out.trans (PR.bnd_ok xP));have hi20:=endP_ok xP;clear xP AZ JM;go_wp2_with(go_at_call 118;refine(mQ p HX.out w20 i20 fD A7.out.at_).mono ?_;rintro e LB (⟨x21,DH,rfl,DM⟩|⟨x,i21,DH,⟨⟨op,n1,s1,m1,a1,m2,qa,a2,m3,qb,rfl,hex⟩,P2,hij21⟩,DM⟩)<;>first|(have wW:=zh (A7.out.nextP DM P2);obtain⟨⟨c0,c1,c2,c3,c4,c5,c6,c7,c8,c9,zP,zO⟩,f0,f1,f2,f3,f4,f5,f6,f7,f8,f9,AQ,AP⟩:=cY wW.out.loc;obtain⟨⟨r0,r1,r2,r3,r4,r5,r6,r7,r8,r9,vX,vW⟩,g0,g1,g2,g3,g4,g5,g6,g7,g8,g9,g10,g11⟩:=cY wW.out.res)|skip)
     ·exact⟨rfl,Ran.bad' (J4.out.trans (PR.bnd_bad DH)) (A7.out.off.trans (DM.mono fun _ h=>.inl h))⟩
     have P7:(fun W=>aU (fun b=>w.heap.size<b/\b≠b5/\b≠km) W x [.int .i64 op,.int .i64 n1,.string s1,.string m1,.slice a1 m2 qa,.slice a2 m3 qb]) LB:=aG.wide hex (fun b hb _=>YO);have zF:Mk 47 jX p (p.S2 km) p.S w b5 #[.string nm,.bool pub,.slice pa pn pc,.int .i64 k,.slice sa sn sc,.int .i64 (en:Int),.int .i64 op,.int .i64 n1,.string s1,.string m1,.slice a1 m2 qa,.slice a2 m3 qb] (fun W=>(fun W=>(((True/\(fun W=>bQ jC fG W km (n+1) (eK fun z=>decide (z=nm)||known z)) W)/\(fun W=>aO 3 eH (fun b=>w.heap.size<b/\b≠b5/\b≠km) W (.slice pa pn pc) ps) W)/\(fun W=>eX (fun b=>w.heap.size<b/\b≠b5/\b≠km) W t [.int .i64 k,.slice sa sn sc]) W)/\(fun W=>∀j,j<bF.length->W.cell? ⟨g,0+j,none⟩=some (.string (bF.getD j ByteArray.empty))) W) W/\(fun W=>aU (fun b=>w.heap.size<b/\b≠b5/\b≠km) W x [.int .i64 op,.int .i64 n1,.string s1,.string m1,.slice a1 m2 qa,.slice a2 m3 qb]) W) i21 ((((((LB.setCell ⟨b5,6,none⟩ (.int .i64 op)).setCell ⟨b5,7,none⟩ (.int .i64 n1)).setCell ⟨b5,8,none⟩ (.string s1)).setCell ⟨b5,9,none⟩ (.string m1)).setCell ⟨b5,10,none⟩ (.slice a1 m2 qa)).setCell ⟨b5,11,none⟩ (.slice a2 m3 qb)):=(wW.out.add (F:=(fun W=>aU (fun b=>w.heap.size<b/\b≠b5/\b≠km) W x [.int .i64 op,.int .i64 n1,.string s1,.string m1,.slice a1 m2 qa,.slice a2 m3 qb])) P7 (dZ.enc aG (stbl_S fun b hb=>⟨fun e=>by have:=hb.1;omega,hb.2.1⟩))).put HW.out ((Off.refl (fun b=>b=b5) LB).one.one.one.one.one.one) (by rw[aW (aW (aW (aW (aW (aW wW.out.loc _) _) _) _) _) _];rfl);(have CC:∀b,b=w.heap.size->¬(fun b=>w.heap.size<b/\b≠b5/\b≠km) b:=fun b hb hn=>by have:=hn.1;omega);have hD:=zF.done HW.out (set12_off _ w.heap.size (.string nm) (.bool pub) (.slice pa pn pc) (.int .i64 k) (.slice sa sn sc) (.int .i64 (en:Int)) (.int .i64 op) (.int .i64 n1) (.string s1) (.string m1) (.slice a1 m2 qa) (.slice a2 m3 qb)) (((((dZ.true.and (dZ.map VS)).and (dZ.row aS VU CC)).and (dZ.enc cB CC)).and (dZ.cells VS)).and (dZ.enc aG CC));unfold set12 at hD;refine bodyPost_ret (v:=oBx11 nm pub pa pn pc k sa sn sc (en:Int) op n1 s1 m1 a1 m2 qa a2 m3 qb) YZ rfl ?_;obtain⟨⟨⟨⟨⟨⟨-,PE⟩,sN⟩,OY⟩,-⟩,vB⟩,qW,DL⟩:=hD;exact UC
    have QP:=QQ.out.trans (PR.bnd_bad (bang_zero hb D6.out HEf.out YW));exact⟨rfl,Ran.bad QP (HS.out.off.trans (Ba DV))⟩
end Go.Proofs.YtiionicikdnnpaaGreatDoor
