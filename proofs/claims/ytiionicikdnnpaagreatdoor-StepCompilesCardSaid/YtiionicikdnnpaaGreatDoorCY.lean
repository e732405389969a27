/- Texts of this seat, joined. -/
import Derived.Test.YtiionicikdnnpaaGreatDoorCX
set_option maxHeartbeats 16000000
set_option maxRecDepth 100000
set_option linter.unusedVariables false
set_option linter.unusedSimpArgs false
namespace Go.Proofs.YtiionicikdnnpaaGreatDoor
open Go.RowKit
theorem wholes_any(p:Prs)(hX:ExpAll p)(n:Nat)(hn:n<=1000)(w:World)(i:Nat)(s:bA)(h:p.At w i):Calls Tryz.prog 122 #[.pointer (some ⟨p.pb,0,none⟩),.int .i64 (n:Int),.string s] w
  (Ran p.S w (gX p.l n i s) (RowV p 6 bN w i)):=by
 obtain⟨i0,xK,vA,tF,sY⟩:=info_parts xpInfo;have HW:=zh h;have hlen:=h.len
 cases n with
 |zero=>
  have HR:Hid (gX p.l 0 i s=(eB p.l i s).bnd fun _ j=>.ok ([],j)):=zh rfl;clear h hX;go_enter Tryz.func122,Tryz.ntmps122;go_wp2_with(go_at_call 110;refine(eA p w i s HW.out).mono ?_;rintro e w1 (⟨x,hx,rfl,rX⟩|⟨⟨⟩,j,hx,⟨rfl,sG⟩,rX⟩))
  ·exact YJ
  have hj:=(dJ hx).1;go_ret;exact Ran.good (HR.out.trans (PR.bnd_ok hx)) ⟨none,0,0,rfl,aO.nil _ _ _ _,sG,YM⟩ rX
 |succ n=>
  have HX:=zh hX;have HR:Hid (gX p.l (n+1) i s=fM p.l s n [] i):=zh rfl;have yJ:((n+1:Nat):Int)=(n:Int)+1:=YM;rw[yJ];have OO:(n:Int)+1<=1000:=YM;have hn3:((n:Int)+1==0)=false:=YV;clear h hX yJ;go_enter Tryz.func122,Tryz.ntmps122;go_wp2_with fail;have U2:Hid (GrL 6 35 bN p w [] [] (.slice none 0 0) i w):=zh ⟨Off.refl _ _,Gro.first _ _ _ _,HW.out⟩;go_loopw [7,15] (fun v c wr=>∃(k:Nat)(a:Option Addr)(cc q:Nat)(out:List Xp)(css:List (List Value)),k<=n/\c=.int .i64 (k:Int)/\v=.slice a out.length cc/\Hid (GrL 6 35 bN p w out css v q wr)/\Hid (gX p.l (n+1) i s=fM p.l s (n-k) out q)/\Hid (i<=q/\out.length=k)) (fun _ c _=>n-(intOf c).toNat)
  case atStart=>exact⟨0,none,0,i,[],[],YM,rfl,rfl,U2,HR,zh ⟨Nat.le_refl _,rfl⟩⟩
  case round=>
   obtain⟨k,a,cc,q,out,css,hk,rfl,rfl,HL,sA,HB⟩:=hrel;(rename World=>wr);have AJ:=HB.out.1;(have BR:out.length<=1000:=by have:=HB.out.2;omega);by_cases rU:k<n
   ·have xC:Hid (gX p.l (n+1) i s=(kI p.l q aY).bnd fun x j=>fM p.l s (n-(k+1)) (out++[x]) j):=zh (by rw[sA.out,show n-k=(n-(k+1))+1 by omega];rfl);go_wp2_with(first|(at_builtin;have HL9:=HL.out.next aI HW.out (sF.trans (Ba (aA w7 (aN op n1 s1 m a1 m1 c1 a2 m2 c2)))) (uE.later (aA _ _));have sW:=HL9.acc;have tV:=sW.big;refine wpList_append_lies _ rfl _ _ 25 rfl w.heap.size 35 i0 (eK 0 0 ByteArray.empty ByteArray.empty none 0 0 none 0 0) 6 96 Tryz.underlying25 xK vA tF sY rfl YM (.slice a out.length cc) out.length css.flatten ZV sW.own ⟨w7.heap.size,0,none⟩ 1 1 [.int .i64 op,.int .i64 n1,.string s1,.string m,.slice a1 m1 c1,.slice a2 m2 c2] ZV rfl (World.news_of_block (cs:=#[.int .i64 op,.int .i64 n1,.string s1,.string m,.slice a1 m1 c1,.slice a2 m2 c2]) (t:=35) (fr:=(0,0)) (bY w7 _)) Y3 YM Y7 YM tV (w7.heap.size+1) YR ?_)|(go_at_call 118;refine(oK p HX.out wr q aY HL.out.at_).mono ?_;rintro e w7 (⟨x7,tJ,rfl,sF⟩|⟨x,j,tJ,⟨⟨op,n1,s1,m,a1,m1,c1,a2,m2,c2,rfl,hex⟩,uE,hqj⟩,sF⟩)))
    ·exact⟨rfl,Ran.bad' (xC.out.trans (PR.bnd_bad tJ)) (HL.out.off.trans sF)⟩
    intro g cap sV rP rN sD _;have uV:=zh (HL.out.step aI HW.out (sF.trans (Ba (aA w7 (aN op n1 s1 m a1 m1 c1 a2 m2 c2)))) (uE.later (aA _ _)) (HL.out.fresh_enc aI (aI _ _ _ _ _ _ (bU.later (aA w7 (aN op n1 s1 m a1 m1 c1 a2 m2 c2))) hex)) rfl rP rfl rN aAm).1;have yQ:=zh (xC.out.trans (PR.bnd_ok tJ));have HJ:Hid (i<=j/\(out++[x]).length=k+1):=zh ⟨YM,by simp[HB.out.2]⟩;clear rP rN sD hex uE sF tJ HL sA xC;go_wp2_with fail;go_roundw;(case rel=>exact⟨k+1,some ⟨g,0,none⟩,cap,j,out++[x],_,YM,YZ,YR,uV,yQ,HJ⟩);case measure=>simp[intOf];omega
   have Q7:k=n:=YM;have xC:Hid (gX p.l (n+1) i s=(kI p.l q s).bnd fun x j=>.ok (out++[x],j)):=zh (by rw[sA.out,Q7,Nat.sub_self];rfl);subst Q7;go_wp2_with(first|(at_builtin;have HL9:=HL.out.next aI HW.out (sF.trans (Ba (aA w7 (aN op n1 s1 m a1 m1 c1 a2 m2 c2)))) (uE.later (aA _ _));have sW:=HL9.acc;have tV:=sW.big;refine wpList_append_lies _ rfl _ _ 25 rfl w.heap.size 35 i0 (eK 0 0 ByteArray.empty ByteArray.empty none 0 0 none 0 0) 6 96 Tryz.underlying25 xK vA tF sY rfl YM (.slice a out.length cc) out.length css.flatten ZV sW.own ⟨w7.heap.size,0,none⟩ 1 1 [.int .i64 op,.int .i64 n1,.string s1,.string m,.slice a1 m1 c1,.slice a2 m2 c2] ZV rfl (World.news_of_block (cs:=#[.int .i64 op,.int .i64 n1,.string s1,.string m,.slice a1 m1 c1,.slice a2 m2 c2]) (t:=35) (fr:=(0,0)) (bY w7 _)) Y3 YM Y7 YM tV (w7.heap.size+1) YR ?_)|(go_at_call 118;refine(oK p HX.out wr q s HL.out.at_).mono ?_;rintro e w7 (⟨x7,tJ,rfl,sF⟩|⟨x,j,tJ,⟨⟨op,n1,s1,m,a1,m1,c1,a2,m2,c2,rfl,hex⟩,uE,hqj⟩,sF⟩)))
   ·exact⟨rfl,Ran.bad' (xC.out.trans (PR.bnd_bad tJ)) (HL.out.off.trans sF)⟩
   intro g cap sV rP rN sD _;have uV:=zh (HL.out.step aI HW.out (sF.trans (Ba (aA w7 (aN op n1 s1 m a1 m1 c1 a2 m2 c2)))) (uE.later (aA _ _)) (HL.out.fresh_enc aI (aI _ _ _ _ _ _ (bU.later (aA w7 (aN op n1 s1 m a1 m1 c1 a2 m2 c2))) hex)) rfl rP rfl rN aAm).1;have hR:=xC.out.trans (PR.bnd_ok tJ);clear rP rN sD hex uE sF tJ;go_wp2_with fail;go_ret;exact Ran.good hR ⟨_,_,_,rfl,by simpa using uV.out.acc.row aI,uV.out.at_,YM⟩ uV.out.off
theorem WV{p:Prop}(h:p:=by
 refine congrArg fC (funext fun z=>?_);simp only[List.any_append,List.any_cons,List.any_nil,Bool.or_false];rw[Bool.or_comm];by_cases h:a=z
 ·subst h;rfl
 have h2:¬z=a:=fun e=>h e.symm
 simp only[decide_eq_false h,decide_eq_false h2]):p:=h
theorem Gro.cells{α:Type}{k:Nat}{T:TypeId}{enc:(Nat->Prop)->World->α->List Value->Prop}{B:Nat}{l:List α}{css:List (List Value)}{v:Value}{w:World}(h:Gro k T enc B l css v w){b:Nat}(hb:v.ownBlock=some b):∃cs t fr,w.heap[b]? =some (.cells cs t fr):=by
 rcases h.own.2 with⟨rfl,-⟩|⟨g,cap,cur,rfl,-,D9,-⟩
 ·cases hb
 have e:g=b:=aAA;subst e;exact⟨_,_,_,D9⟩
theorem Gro.nemap{α:Type}{k:Nat}{T:TypeId}{enc:(Nat->Prop)->World->α->List Value->Prop}{B:Nat}{l:List α}{css:List (List Value)}{v:Value}{w:World}(h:Gro k T enc B l css v w){km:Nat}(hm:gG w km):v.ownBlock≠some km:=fun e=>by
 obtain⟨cs,t,fr,h1⟩:=h.cells e;obtain⟨es,c,h2⟩:=hm;rw[h1] at h2;cases h2
section
variable {α:Type} {k:Nat} {T:TypeId} {enc:(Nat->Prop)->World->α->List Value->Prop} {p:Prs} {W w5 w9 sV:World} {out:List α} {css:List (List Value)} {v:Value} {q j i0 km:Nat}
theorem GrL.fresh(he:fL enc)(hW:p.At W i0)(h:GrL k T enc p W out css v q w5)(hm:gG w5 km)(hk:W.heap.size<=km)(ho:Off (p.S2 km) w5 w9)(ha:p.At w9 j):GrL k T enc p W out css v j w9:=
 ⟨Off.fresh ((h.off.or _).trans (ho.mono fun b hb=>hb.elim (fun e=>.inl e) (fun e=>.inr YM))) (Nat.le_refl _),
  h.acc.stays he (dF.of_off ho fun b hb=>hb.elim (fun e=>.inl (by have:=hW.blt;omega)) (fun e=>.inr (by rw[e];exact hm))),ha⟩
end
theorem GrL.field{p:Prs}{W w6 w7 sV:World}{g cap n1 i0 j2 q:Nat}{fs:List Fld}{css:List (List Value)}{v:Value}{a:bA}{t:Ty}{k:Int}{sa:Option Addr}{sn sc:Nat}(hW:p.At W i0)(h6:GrL 3 105 gS p W fs css v q w6)
  (sF:Off p.S (w6.alloc (dB a 0 none 0 0)) w7) (uE:p.At w7 j2) (uG:iY (bQ (w6.alloc (dB a 0 none 0 0)).heap.size) w7 t [.int .i64 k,.slice sa sn sc]) (hs:a.size<=8000)
  (rP:sV.ownsRow W.heap.size 105 3 (.slice (some ⟨g,0,none⟩) n1 cap) n1 (css.flatten++[.string a,.int .i64 k,.slice sa sn sc])) (hn:n1=fs.length+1) (rN:(((w7.setCell ⟨w6.heap.size,1,none⟩ (.int .i64 k)).setCell ⟨w6.heap.size,2,none⟩ (.slice sa sn sc)).alloc (dB a k sa sn sc)).grownBy sV v.ownBlock) (sD:v.ownBlock=some g\/g=w7.heap.size+1):
  GrL 3 105 gS p W (fs++[(a,t)]) (css++[[.string a,.int .i64 k,.slice sa sn sc]]) (.slice (some ⟨g,0,none⟩) n1 cap) j2 sV/\iY (bQ (w6.heap.size+1)) sV t [.int .i64 k,.slice sa sn sc]/\
  sV.heap[w6.heap.size]? =some (dB a k sa sn sc)/\Off (fun b=>b=w6.heap.size\/v.ownBlock=some b) w7 sV:=by
 have tQ:=h6.acc.big;have wQ:=hW.blt;have rU:=h6.acc.lt;have tK:(w6.alloc (dB a 0 none 0 0)).heap.size=w6.heap.size+1:=YR;have o7:Off p.S w6 w7:=(Ba (aA w6 (dB a 0 none 0 0))).trans sF;have JX:w6.heap.size+1<=w7.heap.size:=by have:=sF.size;omega
 have o8:Off (fun b=>b=w6.heap.size) w7 ((w7.setCell ⟨w6.heap.size,1,none⟩ (.int .i64 k)).setCell ⟨w6.heap.size,2,none⟩ (.slice sa sn sc)):=(Off.setCell (S:=fun b=>b=w6.heap.size) w7 rfl).trans (Off.setCell (S:=fun b=>b=w6.heap.size) _ rfl);have o9:Off (fun b=>b=w6.heap.size) w7 (((w7.setCell ⟨w6.heap.size,1,none⟩ (.int .i64 k)).setCell ⟨w6.heap.size,2,none⟩ (.slice sa sn sc)).alloc (dB a k sa sn sc)):=o8.trans (Ba (aA _ _));have O9:Off p.S w6 (((w7.setCell ⟨w6.heap.size,1,none⟩ (.int .i64 k)).setCell ⟨w6.heap.size,2,none⟩ (.slice sa sn sc)).alloc (dB a k sa sn sc)):=Off.fresh ((o7.or w6.heap.size).trans (o9.mono fun b hb=>.inr YM)) (Nat.le_refl _);have AU:=hW.above uE (o9.mono (S':=fun b=>W.heap.size<=b) fun b hb=>YM)
 have hx:gS (mO W.heap.size v) (((w7.setCell ⟨w6.heap.size,1,none⟩ (.int .i64 k)).setCell ⟨w6.heap.size,2,none⟩ (.slice sa sn sc)).alloc (dB a k sa sn sc)) (a,t) [.string a,.int .i64 k,.slice sa sn sc]:=by
  exact WT
 have CT:(((w7.setCell ⟨w6.heap.size,1,none⟩ (.int .i64 k)).setCell ⟨w6.heap.size,2,none⟩ (.slice sa sn sc)).alloc (dB a k sa sn sc)).heap.size=w7.heap.size+1:=YR;have hT:=h6.step aZ hW O9 AU hx rfl rP hn rN aBm;have H9:w7.heap[w6.heap.size]? =some (dB a 0 none 0 0):=sF.heap (fun e=>by have e:w6.heap.size=p.pb:=e;omega) (bY w6 (dB a 0 none 0 0))
 have hf8:(((w7.setCell ⟨w6.heap.size,1,none⟩ (.int .i64 k)).setCell ⟨w6.heap.size,2,none⟩ (.slice sa sn sc)).alloc (dB a k sa sn sc)).heap[w6.heap.size]? =some (dB a k sa sn sc):=by
  refine aH (aA _ _) ?_;rw[aT (aT H9 _) _];rfl
 have AT:Off (fun b=>v.ownBlock=some b) (((w7.setCell ⟨w6.heap.size,1,none⟩ (.int .i64 k)).setCell ⟨w6.heap.size,2,none⟩ (.slice sa sn sc)).alloc (dB a k sa sn sc)) sV:=⟨rN.os,rN.tape,rN.output,rN.size,fun b hb hn=>rN.block b hb (fun e=>hn e.symm)⟩;refine⟨hT.1,?_,?_,(o9.mono fun b hb=>.inl hb).trans (AT.mono fun b hb=>.inr hb)⟩
 ·rw[tK] at uG;exact fU.off uG ((o9.mono (S':=fun b=>b<=w6.heap.size) fun b hb=>YM).trans (AT.mono fun b hb=>by have:=(rU b hb).2;omega)) (fun b hb hn=>by have hn:w6.heap.size+1<=b:=hn;omega)
 exact AT.heap (fun e=>by have:=(rU _ e).2;omega) hf8
section
variable {l:List Tok} {F q most:Nat} {fs:List Fld}
theorem pU(hq:cP l q=false):dG l most (F+1) fs q=.error ((aL l q).pos,11):=by
 rw[dG,if_neg aAI];unfold gQ;rw[hq];rfl
theorem fieldsFrom_full(hq:cP l q=true)(hm:¬fs.length<most):dG l most (F+1) fs q=.error ((aL l q).pos,6):=by
 rw[dG,if_pos hq];unfold fD;rw[if_neg hm];rfl
theorem lL(hq:cP l q=true)(hm:fs.length<most):dG l most (F+1) fs q=
  (gQ l q (fun s=>fs.any fun x=>decide (x.1=s))).bnd fun s j=>(jV l j).bnd fun t j2=>(nU l j2 t cF).bnd fun q j3=>if q then .ok (fs++[(s,t)],j3) else dG l most F (fs++[(s,t)]) j3:=by
 rw[dG,if_pos hq];unfold fD;rw[if_pos hm];rfl
theorem any_push(fs:List Fld)(a:bA)(t:Ty):(fC fun z=>decide (z=a)||fs.any fun x=>decide (x.1=z))=fC fun s=>(fs++[(a,t)]).any fun x=>decide (x.1=s):=by
 exact WV
theorem freshP_noname{known:bA->Bool}(hq:cP l q=false):gQ l q known=.error ((aL l q).pos,11):=by unfold gQ;rw[hq];rfl
end
theorem off_S2{p:Prs}{W w5 w9:World}{km:Nat}(h:Off p.S W w5)(ho:Off (p.S2 km) w5 w9)(hk:W.heap.size<=km):Off p.S W w9:=
 Off.fresh ((h.or _).trans (ho.mono fun b hb=>hb.elim (fun e=>.inl e) (fun e=>.inr YM))) (Nat.le_refl _)
end Go.Proofs.YtiionicikdnnpaaGreatDoor
namespace Go.Proofs.YtiionicikdnnpaaGreatDoor
open Go.RowKit
def mK(N:Nat->Prop)(w:World)(f:Fnc)(cs:List Value):Prop:=∃vp k vf op n s m vn va,cs=[.string f.name,.bool f.pub,vp,.int .i64 k,vf,.int .i64 f.effects,.int .i64 op,.int .i64 n,.string s,.string m,vn,va]/\f.name.size<=8000/\
 aO 3 gS N w vp f.params/\iY N w f.result [.int .i64 k,vf]/\bN N w f.body [.int .i64 op,.int .i64 n,.string s,.string m,vn,va]
theorem bK:fL mK:=fun _ _ _ _ f cs hm h=>by
 obtain⟨vp,k,vf,op,n,s,m,vn,va,h1,h2,h3,h4,h5⟩:=h;exact⟨vp,k,vf,op,n,s,m,vn,va,h1,h2,h3.moves aZ hm YO,fU _ _ _ _ _ _ hm h4,aI _ _ _ _ _ _ hm h5⟩
def eS(S:Nat->Prop)(E:World->Prop):Prop:=∀w w',Off S w w'->E w->E w'
theorem eS.and{S:Nat->Prop}{E F:World->Prop}(h:eS S E)(k:eS S F):eS S fun w=>E w/\F w:=fun _ _ ho hE=>⟨h _ _ ho hE.1,k _ _ ho hE.2⟩
theorem eS.true{S:Nat->Prop}:eS S fun _=>True:=fun _ _ _ _=>trivial
theorem eS.row{α:Type}{k:Nat}{enc:(Nat->Prop)->World->α->List Value->Prop}(he:fL enc)(hk:0<k){S N:Nat->Prop}(hS:∀b,S b->¬N b){v:Value}{l:List α}:eS S fun w=>aO k enc N w v l:=
 fun _ _ ho h=>h.moves he (fun b hb _=>⟨hb,fun _ _ hv=>ho.cell (fun hs=>hS b hs hb) hv⟩) hk
theorem eS.enc{α:Type}{enc:(Nat->Prop)->World->α->List Value->Prop}(he:fL enc){S N:Nat->Prop}(hS:∀b,S b->¬N b){x:α}{cs:List Value}:eS S fun w=>enc N w x cs:=fun _ _ ho h=>he.off h ho hS
structure Mk (T:TypeId) (zero:Array Value) (p:Prs) (O S:Nat->Prop) (W:World) (b5:Nat) (cells:Array Value) (E:World->Prop) (q:Nat) (wr:World):Prop where
 off:Off O W wr
 res:wr.heap[W.heap.size]? =some (.cells zero T)
 loc:wr.heap[b5]? =some (.cells cells T)
 at_:p.At wr q
 enc:E wr
 st:eS (fun b=>S b\/b=b5) E
 hb5:W.heap.size<b5
 sO:∀b,S b->O b\/W.heap.size<b
 s5:¬S b5
 sR:¬S W.heap.size
 sP:S p.pb
section
variable {T:TypeId} {zero cells cells':Array Value} {p:Prs} {O S S':Nat->Prop} {W wr w':World} {b5 q j i0:Nat} {E F:World->Prop}
theorem Mk.next(h:Mk T zero p O S W b5 cells E q wr)(ho:Off S wr w')(ha:p.At w' j):Mk T zero p O S W b5 cells E j w':=
 ⟨Off.fresh ((h.off.or _).trans (ho.mono fun b hb=>(h.sO b hb).elim .inl fun e=>.inr (Nat.le_of_lt e))) (Nat.le_refl _),ho.heap h.sR h.res,ho.heap h.s5 h.loc,ha,h.st _ _ (ho.mono fun b hb=>.inl hb) h.enc,h.st,h.hb5,h.sO,h.s5,h.sR,h.sP⟩
theorem Mk.nextP(h:Mk T zero p O S W b5 cells E q wr)(ho:Off p.S wr w')(ha:p.At w' j):Mk T zero p O S W b5 cells E j w':=h.next (ho.mono fun b hb=>by have hb:b=p.pb:=hb;rw[hb];exact h.sP) ha
theorem Mk.below(h:Mk T zero p O S W b5 cells E q wr)(hb:Below wr.heap.size wr w'):Mk T zero p O S W b5 cells E q w':=h.next (Ba hb) (h.at_.later hb)
theorem Mk.put(h:Mk T zero p O S W b5 cells E q wr)(hW:p.At W i0)(ho:Off (fun b=>b=b5) wr w')(hl:w'.heap[b5]? =some (.cells cells' T)):Mk T zero p O S W b5 cells' E q w':=by
 have h1:=h.hb5;exact⟨Off.fresh ((h.off.or _).trans (ho.mono fun b hb=>.inr (by have hb:b=b5:=hb;omega))) (Nat.le_refl _),ho.heap YM h.res,hl,hW.above h.at_ (ho.mono fun b hb=>by have hb:b=b5:=hb;omega),h.st _ _ (ho.mono fun b hb=>.inr hb) h.enc,h.st,h1,h.sO,h.s5,h.sR,h.sP⟩
theorem Mk.add(h:Mk T zero p O S W b5 cells E q wr)(hF:F wr)(hs:eS (fun b=>S b\/b=b5) F):Mk T zero p O S W b5 cells (fun w=>E w/\F w) q wr:=
 ⟨h.off,h.res,h.loc,h.at_,⟨h.enc,hF⟩,h.st.and hs,h.hb5,h.sO,h.s5,h.sR,h.sP⟩
theorem Mk.shrink(h:Mk T zero p O S W b5 cells E q wr)(hS:∀b,S' b->S b)(hp:S' p.pb):Mk T zero p O S' W b5 cells E q wr:=
 ⟨h.off,h.res,h.loc,h.at_,h.enc,fun w w' ho hE=>h.st w w' (ho.mono fun b hb=>hb.elim (fun e=>.inl (hS b e)) .inr) hE,h.hb5,fun b hb=>h.sO b (hS b hb),fun e=>h.s5 (hS _ e),fun e=>h.sR (hS _ e),hp⟩
theorem Mk.lt(h:Mk T zero p O S W b5 cells E q wr):b5<wr.heap.size:=(Array.getElem?_eq_some_iff.1 h.loc).1
end
theorem iS{w:World}{b:Nat}{x0 x1 x2 x3 x4 x5 x6 x7 x8 x9 x10 x11:Value}{t:TypeId}(h:w.heap[b]? =some (.cells #[x0,x1,x2,x3,x4,x5,x6,x7,x8,x9,x10,x11] t)):
  (w.cell? ⟨b,0,none⟩=some x0/\w.cell? ⟨b,1,none⟩=some x1/\w.cell? ⟨b,2,none⟩=some x2/\w.cell? ⟨b,3,none⟩=some x3/\w.cell? ⟨b,4,none⟩=some x4/\w.cell? ⟨b,5,none⟩=some x5/\w.cell? ⟨b,6,none⟩=some x6/\w.cell? ⟨b,7,none⟩=some x7/\w.cell? ⟨b,8,none⟩=some x8/\w.cell? ⟨b,9,none⟩=some x9/\w.cell? ⟨b,10,none⟩=some x10/\w.cell? ⟨b,11,none⟩=some x11)/\
  (w.frozen? ⟨b,0,none⟩=false/\w.frozen? ⟨b,1,none⟩=false/\w.frozen? ⟨b,2,none⟩=false/\w.frozen? ⟨b,3,none⟩=false/\w.frozen? ⟨b,4,none⟩=false/\w.frozen? ⟨b,5,none⟩=false/\w.frozen? ⟨b,6,none⟩=false/\w.frozen? ⟨b,7,none⟩=false/\w.frozen? ⟨b,8,none⟩=false/\w.frozen? ⟨b,9,none⟩=false/\w.frozen? ⟨b,10,none⟩=false/\w.frozen? ⟨b,11,none⟩=false):=
 ⟨⟨(bx h 0 rfl).1,(bx h 1 rfl).1,(bx h 2 rfl).1,(bx h 3 rfl).1,(bx h 4 rfl).1,(bx h 5 rfl).1,(bx h 6 rfl).1,(bx h 7 rfl).1,(bx h 8 rfl).1,(bx h 9 rfl).1,(bx h 10 rfl).1,(bx h 11 rfl).1⟩,(bx h 0 (u:=x0) rfl).2,(bx h 1 (u:=x1) rfl).2,(bx h 2 (u:=x2) rfl).2,(bx h 3 (u:=x3) rfl).2,(bx h 4 (u:=x4) rfl).2,(bx h 5 (u:=x5) rfl).2,(bx h 6 (u:=x6) rfl).2,(bx h 7 (u:=x7) rfl).2,(bx h 8 (u:=x8) rfl).2,(bx h 9 (u:=x9) rfl).2,(bx h 10 (u:=x10) rfl).2,(bx h 11 (u:=x11) rfl).2⟩
abbrev lN:Array Value:=#[.string ⟨#[]⟩,.bool false,.slice none 0 0,.int .i64 0,.slice none 0 0,.int .i64 0,.int .i64 0,.int .i64 0,.string ⟨#[]⟩,.string ⟨#[]⟩,.slice none 0 0,.slice none 0 0]
theorem stbl_S{p:Prs}{b5:Nat}{N:Nat->Prop}(h:∀b,N b->b≠p.pb/\b≠b5):∀b,(p.S b\/b=b5)->¬N b:=fun b hb hn=>hb.elim (fun e=>(h b hn).1 e) (fun e=>(h b hn).2 e)
def set12(w:World)(b:Nat)(x0 x1 x2 x3 x4 x5 x6 x7 x8 x9 x10 x11:Value):World:=
 (((((((((((w.setCell ⟨b,0,none⟩ x0).setCell ⟨b,1,none⟩ x1).setCell ⟨b,2,none⟩ x2).setCell ⟨b,3,none⟩ x3).setCell ⟨b,4,none⟩ x4).setCell ⟨b,5,none⟩ x5).setCell ⟨b,6,none⟩ x6).setCell ⟨b,7,none⟩ x7).setCell ⟨b,8,none⟩ x8).setCell ⟨b,9,none⟩ x9).setCell ⟨b,10,none⟩ x10).setCell ⟨b,11,none⟩ x11
theorem Off.one{w w':World}{b o:Nat}{v:Value}(h:Off (fun k=>k=b) w w'):Off (fun k=>k=b) w (w'.setCell ⟨b,o,none⟩ v):=h.trans (Off.setCell (S:=fun k=>k=b) _ rfl)
theorem set12_off(w:World)(b:Nat)(x0 x1 x2 x3 x4 x5 x6 x7 x8 x9 x10 x11:Value):Off (fun k=>k=b) w (set12 w b x0 x1 x2 x3 x4 x5 x6 x7 x8 x9 x10 x11):=by
 unfold set12;exact(Off.refl _ _).one.one.one.one.one.one.one.one.one.one.one.one
theorem eS.cells{S:Nat->Prop}{g n:Nat}{f:Nat->Value}(hS:¬S g):eS S fun W=>∀j,j<n->W.cell? ⟨g,0+j,none⟩=some (f j):=fun _ _ ho hw j hj=>ho.cell hS (hw j hj)
theorem eS.map{S:Nat->Prop}{km n:Nat}{m:bA->Option Bool}(hS:¬S km):eS S fun w=>bV kG fZ w km n m:=fun _ _ ho h=>h.of_block (ho.block km h.lt hS)
theorem Mk.done{T:TypeId}{zero cells:Array Value}{p:Prs}{O S:Nat->Prop}{W wr w':World}{b5 q i0:Nat}{E:World->Prop}(h:Mk T zero p O S W b5 cells E q wr)(hW:p.At W i0)(ho:Off (fun b=>b=W.heap.size) wr w')(hE:eS (fun b=>b=W.heap.size) E):E w'/\p.At w' q/\Off O W w':=
 ⟨hE _ _ ho h.enc,hW.above h.at_ (ho.mono fun b hb=>by have hb:b=W.heap.size:=hb;omega),Off.fresh ((h.off.or _).trans (ho.mono fun b hb=>.inr (Nat.le_of_eq (Eq.symm hb)))) (Nat.le_refl _)⟩
end Go.Proofs.YtiionicikdnnpaaGreatDoor
namespace Go.Proofs.YtiionicikdnnpaaGreatDoor
open Go.RowKit
theorem fields_any(p:Prs)(most:Nat)(hmost:most<=8)(w:World)(i:Nat)(h:p.At w i):Calls Tryz.prog 121 #[.pointer (some ⟨p.pb,0,none⟩),.int .i64 (most:Int)] w
  (Ran p.S w (iQ p.l most i) (RowV p 3 gS w i)):=by
 obtain⟨i0,xK,vA,tF,sY⟩:=info_parts fldInfo;have HW:=zh h;have H8:=@run_makeMap Tryz.prog;have hlen:=h.len;have hg11:=h.glob.big;have R0:=zh (eA p w i aX h);have HR:Hid (iQ p.l most i=(eB p.l i aX).bnd fun _ j=>if isP p.l j cF then .ok ([],j+1) else dG p.l most (p.l.length+1) [] j):=zh rfl;clear h;go_enter Tryz.func121,Tryz.ntmps121;go_wp2_with(first|(go_at_call 120;refine(oF p w1 j cF sG).mono ?_;rintro e w2 ⟨rfl,sS,rS⟩)|(go_at_call 110;refine R0.out.mono ?_;rintro e w1 (⟨x,hx,rfl,rX⟩|⟨⟨⟩,j,hx,⟨rfl,sG⟩,rX⟩)))
 ·exact YJ
 ·exact XF
 rename_i hq;have hj:=(dJ hx).1;rw[if_neg aAI] at sS;have GQ:=zh (HR.out.trans ((PR.bnd_ok hx).trans (if_neg aAI)));have tF:=rX.size;have SH:=rS.size;have U2:Hid (GrL 3 105 gS p w [] [] (.slice none 0 0) j (w2.alloc (.map #[] 0))):=zh ⟨(rX.trans rS).trans (Ba (aA _ _)),Gro.first_at _ _ _ Y9,sS.later (aA _ _)⟩;have HM0:Hid (bV kG fZ (w2.alloc (.map #[] 0)) w2.heap.size 0 (fC fun s=>([]:List Fld).any fun x=>decide (x.1=s))):=zh ((bV.made w2).ext fun _=>rfl);have SY:11<=w2.heap.size:=YM;have hkw:w.heap.size<=w2.heap.size:=YM;have HJ0:=zh hj;clear H8 rX rS sG sS hx hq R0 HR tF SH hj;generalize w2.heap.size=km at *;go_loopw [5] (fun v wr=>∃(a:Option Addr)(c q F:Nat)(fs:List Fld)(css:List (List Value)),v=.slice a fs.length c/\Hid (GrL 3 105 gS p w fs css v q wr)/\Hid (bV kG fZ wr km fs.length (fC fun s=>fs.any fun x=>decide (x.1=s)))/\Hid (iQ p.l most i=dG p.l most (F+1) fs q)/\Hid (p.l.length<=F+q/\i<=q/\fs.length<=most)) (fun _ wr=>p.l.length-posOf wr p.pb)
 case atStart=>exact⟨none,0,j,p.l.length,[],[],rfl,U2,HM0,GQ,zh ⟨YM,by have:=HJ0.out;omega,Nat.zero_le _⟩⟩
 case round=>
  obtain⟨a,c,q,F,fs,css,rfl,HL,HM,sA,HB⟩:=hrel;rename World=>wr
  have AJ:=HB.out.1;have BR:=HB.out.2.1;have SP:fs.length<=8:=by have:=HB.out.2.2;omega
  have D1:=HL.out.at_.lt
  cases xH:cP p.l q with
  |false=>
   as_aux_lemma=>
    go_wp2_with(first|(go_at_call 114;refine(oO p w5 q km fs.length _ wA.out.at_ HM5.out SY YM).mono ?_;rintro e w6 (⟨x,hx,rfl,sH⟩|⟨s,j6,hx,⟨rfl,vN,hm6,J0⟩,sH⟩))|(go_at_call 182;refine(jF p wr q HL.out.at_).mono ?_;rintro e w5 ⟨rfl,hb5⟩;rw[xH];have wA:=zh (HL.out.next aZ HW.out (Ba hb5) (HL.out.at_.later hb5));have HM5:=zh (HM.out.later hb5)))
    ·exact⟨rfl,Ran.bad' (by have e:=(freshP_noname xH).symm.trans hx;cases e;exact sA.out.trans (pU xH)) (off_S2 wA.out.off sH hkw)⟩
    rw[freshP_noname xH] at hx;cases hx
  |true=>
   as_aux_lemma=>
    go_wp2_with(first|(at_builtin;have O9:Off p.S w6 (((w7.setCell ⟨w6.heap.size,1,none⟩ (.int .i64 k)).setCell ⟨w6.heap.size,2,none⟩ (.slice sa sn sc)).alloc (dB s k sa sn sc)):=Off.fresh (((Ba (S:=p.S) (aA w6 (dB s 0 none 0 0))).trans sF).or w6.heap.size |>.trans (((Off.setCell (S:=fun b=>p.S b\/w6.heap.size<=b) w7 (.inr (Nat.le_refl _))).trans (Off.setCell (S:=fun b=>p.S b\/w6.heap.size<=b) _ (.inr (Nat.le_refl _)))).trans (Ba (aA _ _)))) (Nat.le_refl _);have A9:=B6.out.acc.stays aZ (dF.of_off O9 fun b hb=>.inl ZX);have tV:=A9.big;have sW:=A9.own;refine wpList_append_lies _ rfl _ _ 24 rfl w.heap.size 105 i0 (oBx26 ByteArray.empty 0 none 0 0) 3 48 Tryz.underlying24 xK vA tF sY rfl YM (.slice a fs.length c) fs.length css.flatten ZV (by simpa using sW) ⟨w7.heap.size,0,none⟩ 1 1 [.string s,.int .i64 k,.slice sa sn sc] ZV rfl (World.news_of_block (cs:=#[.string s,.int .i64 k,.slice sa sn sc]) (t:=105) (fr:=(0,0)) (by simpa using bY ((w7.setCell ⟨w6.heap.size,1,none⟩ (.int .i64 k)).setCell ⟨w6.heap.size,2,none⟩ (.slice sa sn sc)) (dB s k sa sn sc))) Y3 YM Y7 YM (by simpa using tV) (w7.heap.size+1) YR ?_)|(go_at_call 115;refine(typed_any p (w6.alloc (dB s 0 none 0 0)) j6 (vN.later (aA _ _))).mono ?_;rintro e w7 (⟨x2,rV,rfl,sF⟩|⟨t,j2,rV,⟨k,sa,sn,sc,rfl,uG,uE,OQ⟩,sF⟩)<;>have H9:=zh (sF.heap (fun e=>aAz) (bY w6 (dB s 0 none 0 0)))<;>obtain⟨d0,d1,d2,e0,e1,e2⟩:=bxT3 H9.out)|(go_at_call 114;refine(oO p w5 q km fs.length _ wA.out.at_ HM5.out SY YM).mono ?_;rintro e w6 (⟨x,hx,rfl,sH⟩|⟨s,j6,hx,⟨rfl,vN,hm6,J0⟩,sH⟩)<;>first|(have B6:=zh (wA.out.fresh aZ HW.out (gG.of HM5.out) hkw sH vN))|skip)|(go_at_call 49;refine(gN p w5 q _ _ wA.out.at_).mono ?_;rintro e w5' (⟨GB,rfl,rfl⟩|⟨GB,rfl,O0⟩))|(go_at_call 182;refine(jF p wr q HL.out.at_).mono ?_;rintro e w5 ⟨rfl,hb5⟩;rw[xH];have wA:=zh (HL.out.next aZ HW.out (Ba hb5) (HL.out.at_.later hb5));have HM5:=zh (HM.out.later hb5)))
    ·(have I5:fs.length<most:=by simp at GB;omega);exact⟨rfl,Ran.bad' (sA.out.trans ((lL xH I5).trans (PR.bnd_bad hx))) (off_S2 wA.out.off sH hkw)⟩
    ·(have I5:fs.length<most:=by simp at GB;omega);exact⟨rfl,Ran.bad' (sA.out.trans ((lL xH I5).trans ((PR.bnd_ok hx).trans (PR.bnd_bad rV)))) (B6.out.off.trans ((Ba (aA _ _)).trans sF))⟩
    ·(have I5:fs.length<most:=by simp at GB;omega);intro g' cap' sV rP rN sD _;obtain⟨C5,RE,hf10,AT⟩:=B6.out.field HW.out sF uE uG J0 rP rfl rN sD;obtain⟨q0,q1,q2,r0,r1,r2⟩:=bxT3 hf10;have uV:=zh C5;have hm7:=map_off (vN.later (aA _ _)) (hm6.later (aA w6 (dB s 0 none 0 0))) sF
     have HM10:=zh ((hm7.of_block (AT.block km hm7.lt (by
      rintro(e|e)
      ·have:=hm6.lt;omega
      exact B6.out.acc.nemap (gG.of hm6) e))).ext fun z=>congrFun (any_push fs s t) z)
     have hj6:=rE hx;have xC:=zh (sA.out.trans ((lL xH I5).trans ((PR.bnd_ok hx).trans (PR.bnd_ok rV))));have HMr:=zh (more_any p sV j2 _ t k _ cF C5.at_ RE (by have:=mR rV;omega));have HJ:Hid (i<=j2):=zh YM;clear rP rN sD C5 RE hf10 AT hm7 uG uE sF H9 O9 A9 tV sW d0 d1 d2 e0 e1 e2 hx rV wA HM5 B6 hm6 vN sH;go_wp2_with(go_at_call 184;refine HMr.out.mono ?_;rintro e tH (⟨x3,rW,rfl,sK⟩|⟨bb,j3,rW,⟨rfl,tR⟩,sK⟩))
     ·exact⟨rfl,Ran.bad' (xC.out.trans (PR.bnd_bad rW)) (uV.out.off.trans sK)⟩
     ·rename_i AE;subst AE;have hR:=xC.out.trans ((PR.bnd_ok rW).trans (if_pos rfl));have SZ:=qZ rW;have yT:=zh (uV.out.next aZ HW.out sK tR);go_ret;exact Ran.good hR ⟨_,_,_,rfl,by simpa using yT.out.acc.row aZ,tR,by have:=HJ.out;omega⟩ yT.out.off
     rename_i AE;subst AE;have hR:=xC.out.trans ((PR.bnd_ok rW).trans (if_neg YR));have SZ:=qZ rW;have yT:=zh (uV.out.next aZ HW.out sK tR);have DD:=zh (map_off uV.out.at_ HM10.out sK);have Q3:=tR.lt;have DO:=HJ.out;obtain⟨F',wE⟩:∃F',F=F'+1:=⟨F-1,YM⟩;have HR':=zh hR;have HLm:=zh I5;clear hR I5 tR sK rW;go_roundw
     case rel=>
      subst wE;exact⟨some ⟨g',0,none⟩,cap',j3,F',fs++[(s,t)],_,YR,yT,by simpa using DD,HR',zh ⟨YM,YM,by have:=HLm.out;simp;omega⟩⟩
     case measure=>
      rw[yT.out.at_.pos,HL.out.at_.pos];omega
    (have I5:¬fs.length<most:=by simp at GB;omega);exact⟨rfl,Ran.bad (sA.out.trans (fieldsFrom_full xH I5)) (wA.out.off.trans (Ba O0))⟩
theorem VP{p:Prop}(h:p:=by
 refine hK.out _ _ trivial (fun hS=>?_);clear hK K;refine zt 4 (.int .i64 ((en:Int)+2 ^ kk)) rfl (fun W hW=>by go_simp;exact bits_or rU LN) ?_;refine zq 5 (.pointer (some ⟨b5,5,none⟩)) rfl ?_;try simp only[zn]
 refine zr 6 rfl (fun K hK=>?_);try simp only[z1,z2,z3]
 obtain⟨⟨c0,c1,c2,c3,c4,c5,c6,c7,c8,c9,BK,BJ⟩,f0,f1,f2,f3,f4,f5,f6,f7,f8,f9,BW,BV⟩:=iS wH.out.loc;go_simp;clear c0 c1 c2 c3 c4 c5 c6 c7 c8 c9 BK BJ f0 f1 f2 f3 f4 f5 f6 f7 f8 f9 BW BV;refine hK.out _ _ trivial (fun hS=>?_);clear hK K;try simp only[zn]
 refine wpAnyH_done YN ?_ _;clear hS;have xN:Hid (Mk 47 lN p (p.S2 km) p.S w b5 #[.string nm,.bool pub,.slice pa pn pc,.int .i64 k,.slice sa sn sc,.int .i64 ((en+2 ^ kk:Nat):Int),.int .i64 0,.int .i64 0,.string ⟨#[]⟩,.string ⟨#[]⟩,.slice none 0 0,.slice none 0 0] (fun W=>(((True/\(fun W=>bV kG fZ W km (n+1) (fC fun z=>decide (z=nm)||known z)) W)/\(fun W=>aO 3 gS (fun b=>w.heap.size<b/\b≠b5/\b≠km) W (.slice pa pn pc) ps) W)/\(fun W=>iY (fun b=>w.heap.size<b/\b≠b5/\b≠km) W t [.int .i64 k,.slice sa sn sc]) W)/\(fun W=>∀j,j<bF.length->W.cell? ⟨g,0+j,none⟩=some (.string (bF.getD j ByteArray.empty))) W) (q+1) (CS.setCell ⟨b5,5,none⟩ (.int .i64 ((en:Int)+2 ^ kk)))):=zh (wH.out.put HW.out (Off.setCell (S:=fun b=>b=b5) CS rfl) (by rw[aT wH.out.loc,pow_cast];rfl));have yQ:Hid (dQ p.l cR 0 JW=dQ p.l (cR.drop (kk+1)) ((en+2 ^ kk:Nat):Int) (q+1)):=zh (by rw[sA.out,IF.out,hq,M4.out,if_pos rfl];rfl);have HJ2:Hid (JW<=q+1):=zh (by have:=HJ.out;omega);have FL:Hid (en+2 ^ kk<2 ^ (kk+1)):=zh (by rw[Nat.pow_succ];omega);generalize CS.setCell ⟨b5,5,none⟩ (.int .i64 ((en:Int)+2 ^ kk))=M8 at *;go_wp2_with fail;go_roundw;case rel=>exact⟨kk+1,q+1,en+2 ^ kk,YM,YZ,FL,xN,yQ,HJ2⟩
 case measure=>simp[intOf];omega):p:=h
theorem WZ{p:Prop}(h:p:=by
 exact Ran.good (MJ.out.trans (PR.bnd_ok FR)) ⟨pa,pn,pc,k,sa,sn,sc,op,n1,s1,m1,a1,m2,qa,a2,m3,qb,rfl,bK.wide ⟨_,_,_,_,_,_,_,_,_,rfl,tK,sJ,IT,xX⟩ (fun b hb _=>Nat.le_of_lt hb.1),sD,by have:=HIq.out;omega,I4⟩ FV):p:=h
def FnV(p:Prs)(w:World)(km n:Nat)(known:bA->Bool)(i:Nat)(f:Fnc)(j:Nat)(e:Ending)(w':World):Prop:=
 ∃pa pn pc k sa sn sc op n1 s1 m1 a1 m2 c1 a2 m3 c2,e=.returned (oBx12 f.name f.pub pa pn pc k sa sn sc f.effects op n1 s1 m1 a1 m2 c1 a2 m3 c2)/\
  mK (bQ w.heap.size) w' f [.string f.name,.bool f.pub,.slice pa pn pc,.int .i64 k,.slice sa sn sc,.int .i64 f.effects,.int .i64 op,.int .i64 n1,.string s1,.string m1,.slice a1 m2 c1,.slice a2 m3 c2]/\p.At w' j/\i<j/\bV kG fZ w' km (n+1) (fC fun z=>decide (z=f.name)||known z)
theorem effectL_at{l:List Tok}{k:Nat}(hk:k<4){n:Int}{q:Nat}:dQ l (cR.drop k) n q=if isP l q (bF.getD k ByteArray.empty) then dQ l (cR.drop (k+1)) (n+bR (bF.getD k ByteArray.empty)) (q+1) else dQ l (cR.drop (k+1)) n q:=by
 match k,hk with
 |0,_=>rfl
 |1,_=>rfl
 |2,_=>rfl
 |3,_=>rfl
section
variable {l:List Tok} {i j q:Nat} {fits:Bool} {en:Int}
theorem bang_no(h:isP l i jA=false):nL l i fits=.ok ((0,fits),i):=by unfold nL;rw[if_neg (by rw[h];simp)]
theorem bang_bad(h:isP l i jA=true){x:Int×Int}(he:lX l i fits jA=.error x):nL l i fits=.error x:=by unfold nL;rw[if_pos h,he];rfl
theorem bang_yes(h:isP l i jA=true)(he:lX l i fits jA=.ok ((),j))(hf:dQ l cR 0 j=(en,q))(hn:¬en=0):nL l i fits=.ok ((en,true),q):=by unfold nL;rw[if_pos h,he];simp only[PR.bnd,hf];rw[if_pos hn]
theorem bang_zero(h:isP l i jA=true)(he:lX l i fits jA=.ok ((),j))(hf:dQ l cR 0 j=(en,q))(hn:en=0):nL l i fits=.error ((aL l q).pos,11):=by unfold nL;rw[if_pos h,he];simp only[PR.bnd,hf];rw[if_neg (by simp[hn])];rfl
end
theorem bit_pow{k:Nat}(hk:k<4):bR (bF.getD k ByteArray.empty)=((2 ^ k:Nat):Int):=by
 match k,hk with
 |0,_=>rfl
 |1,_=>rfl
 |2,_=>rfl
 |3,_=>rfl
theorem pow_cast(en k:Nat):((en+2 ^ k:Nat):Int)=(en:Int)+2 ^ k:=YR
theorem bits_or{k en:Nat}(hk:k<4)(he:en<2 ^ k):bits BinOp.or IntKind.i64 (en:Int) (2 ^ k)=(en:Int)+2 ^ k:=by
 match k,hk with
 |0,_=>match en,he with|0,_=>decide
 |1,_=>match en,he with|0,_=>decide|1,_=>decide
 |2,_=>match en,he with|0,_=>decide|1,_=>decide|2,_=>decide|3,_=>decide
 |3,_=>match en,he with|0,_=>decide|1,_=>decide|2,_=>decide|3,_=>decide|4,_=>decide|5,_=>decide|6,_=>decide|7,_=>decide
theorem function_any(p:Prs)(hX:ExpAll p)(w:World)(i km n:Nat)(known:bA->Bool)(h:p.At w i)(hm:bV kG fZ w km n (fC known))(hk:11<=km)(hn:n<1000000):
  Calls Tryz.prog 119 #[.pointer (some ⟨p.pb,0,none⟩),.map (some km)] w (Ran (p.S2 km) w (jY p.l i known) (FnV p w km n known i)):=by
 have HW:=zh h;have HX:=zh hX;have HM0:=zh hm;have hlen:=h.len;have hkm:km<w.heap.size:=hm.lt;have wQ:=h.blt;have yD:=(h.nemap (gG.of hm)).1;have I8:i<=(if isP p.l i lE=true then i+1 else i):=by split<;>omega
 have HR:Hid (jY p.l i known=(eB p.l (if isP p.l i lE=true then i+1 else i) kFn).bnd fun _ j=>(gQ p.l j known).bnd fun name j2=>(iQ p.l 6 j2).bnd fun ps j3=>(jV p.l j3).bnd fun t j4=>(nL p.l j4 (decide (bI t<=4))).bnd fun ef j5=>
  (lX p.l j5 ef.2 kEq).bnd fun _ j6=>(kI p.l j6 dP).bnd fun e j7=>.ok (⟨name,isP p.l i lE,ps,t,ef.1,e⟩,j7)):=zh rfl
 clear h hX hm;go_enter Tryz.func119,Tryz.ntmps119;go_wp2_with(go_at_call 120;refine(oF p (w.alloc (.cells lN 47)) i lE (HW.out.later (aA _ _))).mono ?_;rintro e w2 ⟨rfl,sS,rS⟩);have sY:=rS.size;have tF:(w.alloc (.cells lN 47)).heap.size=w.heap.size+1:=YR;generalize (if isP p.l i lE=true then i+1 else i)=i1 at *;generalize isP p.l i lE=pub at *;have AA:Hid (Mk 47 lN p (p.S2 km) (p.S2 km) w w2.heap.size #[.string ⟨#[]⟩,.bool pub,.slice none 0 0,.int .i64 0,.slice none 0 0,.int .i64 0,.int .i64 0,.int .i64 0,.string ⟨#[]⟩,.string ⟨#[]⟩,.slice none 0 0,.slice none 0 0] (fun _=>True) i1 (w2.alloc (jQ ⟨#[]⟩ pub none 0 0 0 none 0 0 0 0 0 ⟨#[]⟩ ⟨#[]⟩ none 0 0 none 0 0))):=zh ⟨((Ba (aA w (.cells lN 47))).trans ((rS.mono fun _ hb=>.inl hb).trans (Ba (aA w2 _)))),aH (aA w2 _) (rS.heap (by show ¬w.heap.size=p.pb;omega) (bY w (.cells lN 47))),bY w2 _,sS.later (aA w2 _),trivial,eS.true,YM,fun b hb=>.inl hb,fun e=>Y2,fun e=>Y2,.inl rfl⟩;have HM3:Hid (bV kG fZ (w2.alloc (jQ ⟨#[]⟩ pub none 0 0 0 none 0 0 0 0 0 ⟨#[]⟩ ⟨#[]⟩ none 0 0 none 0 0)) km n (fC known)):=zh ((map_off (HW.out.later (aA _ _)) (HM0.out.later (aA w (.cells lN 47))) rS).later (aA w2 _));have hb5w:w.heap.size<w2.heap.size:=YM;clear sS rS HM0;generalize w2.heap.size=b5 at *;generalize w2.alloc (jQ ⟨#[]⟩ pub none 0 0 0 none 0 0 0 0 0 ⟨#[]⟩ ⟨#[]⟩ none 0 0 none 0 0)=w3 at *;have ON:¬km=b5:=YM;have OM:¬b5=km:=YM;clear tF sY;go_wp2_with(go_at_call 110;refine(eA p w3 i1 kFn AA.out.at_).mono ?_;rintro e w4 (⟨x4,sI,rfl,rY⟩|⟨⟨⟩,i4,sI,⟨rfl,uA⟩,rY⟩))
 ·exact⟨rfl,Ran.bad' (HR.out.trans (PR.bnd_bad sI)) (AA.out.off.trans (rY.mono fun _ h=>.inl h))⟩
 have xZ:=zh (AA.out.nextP rY uA);have HM4:=zh (map_off AA.out.at_ HM3.out rY);have HR4:=zh (HR.out.trans (PR.bnd_ok sI));have hi4:=(dJ sI).1;have U4:Hid (i<i4):=zh YM;clear sI rY uA AA HM3 HR hi4 I8;go_wp2_with(go_at_call 114;refine(oO p w4 i4 km n known xZ.out.at_ HM4.out hk hn).mono ?_;rintro e w5 (⟨x5,sQ,rfl,sC⟩|⟨nm,i5,sQ,⟨rfl,uS,hm5,tK⟩,sC⟩)<;>first|(have wA:=zh (xZ.out.next sC uS);obtain⟨⟨c0,c1,c2,c3,c4,c5,c6,c7,c8,c9,BK,BJ⟩,f0,f1,f2,f3,f4,f5,f6,f7,f8,f9,BW,BV⟩:=iS wA.out.loc)|skip)
 ·exact⟨rfl,Ran.bad' (HR4.out.trans (PR.bnd_bad sQ)) (xZ.out.off.trans sC)⟩
 have HR5:=zh (HR4.out.trans (PR.bnd_ok sQ));have hi5:=rE sQ;have HI5:Hid (i<i5):=zh (by have:=U4.out;omega);clear c0 c1 c2 c3 c4 c5 c6 c7 c8 c9 BK BJ f0 f1 f2 f3 f4 f5 f6 f7 f8 f9 BW BV;have GO:Hid (Mk 47 lN p (p.S2 km) p.S w b5 #[.string nm,.bool pub,.slice none 0 0,.int .i64 0,.slice none 0 0,.int .i64 0,.int .i64 0,.int .i64 0,.string ⟨#[]⟩,.string ⟨#[]⟩,.slice none 0 0,.slice none 0 0] (fun W=>True/\(fun W=>bV kG fZ W km (n+1) (fC fun z=>decide (z=nm)||known z)) W) i5 (w5.setCell ⟨b5,0,none⟩ (.string nm))):=zh ((((wA.out.put HW.out (cells':=#[.string nm,.bool pub,.slice none 0 0,.int .i64 0,.slice none 0 0,.int .i64 0,.int .i64 0,.int .i64 0,.string ⟨#[]⟩,.string ⟨#[]⟩,.slice none 0 0,.slice none 0 0]) (Off.setCell (S:=fun b=>b=b5) w5 rfl) (by rw[aT wA.out.loc];rfl)).shrink (S':=p.S) (fun b hb=>.inl hb) rfl)).add (F:=(fun W=>bV kG fZ W km (n+1) (fC fun z=>decide (z=nm)||known z))) (hm5.setCell ON _) (eS.map (fun e=>Or.elim e yD ON)));clear sQ sC uS hm5 xZ HM4 HR4 wA hi5 U4;generalize w5.setCell ⟨b5,0,none⟩ (.string nm)=w5' at *;go_wp2_with(go_at_call 121;refine(fields_any p 6 YO w5' i5 GO.out.at_).mono ?_;rintro e w6 (⟨x6,uX,rfl,sH⟩|⟨ps,i6,uX,⟨pa,pn,pc,rfl,hps,vN,S9⟩,sH⟩)<;>first|(have B6:=zh (GO.out.nextP sH vN);obtain⟨⟨c0,c1,c2,c3,c4,c5,c6,c7,c8,c9,BK,BJ⟩,f0,f1,f2,f3,f4,f5,f6,f7,f8,f9,BW,BV⟩:=iS B6.out.loc)|skip)
 ·exact⟨rfl,Ran.bad' (HR5.out.trans (PR.bnd_bad uX)) (GO.out.off.trans (sH.mono fun _ h=>.inl h))⟩
 have HR6:=zh (HR5.out.trans (PR.bnd_ok uX));have HI6:Hid (i<i6):=zh (by have:=HI5.out;omega);clear c0 c1 c2 c3 c4 c5 c6 c7 c8 c9 BK BJ f0 f1 f2 f3 f4 f5 f6 f7 f8 f9 BW BV;have hF6:aO 3 gS (fun b=>w.heap.size<b/\b≠b5/\b≠km) w6 (.slice pa pn pc) ps:=hps.moves aZ (fun b hb _=>⟨by have hb:w5'.heap.size<=b:=hb;have:=GO.out.lt;exact⟨YM,YM,YM⟩,fun _ _ h=>h⟩) YO;have NS:Hid (Mk 47 lN p (p.S2 km) p.S w b5 #[.string nm,.bool pub,.slice pa pn pc,.int .i64 0,.slice none 0 0,.int .i64 0,.int .i64 0,.int .i64 0,.string ⟨#[]⟩,.string ⟨#[]⟩,.slice none 0 0,.slice none 0 0] (fun W=>(True/\(fun W=>bV kG fZ W km (n+1) (fC fun z=>decide (z=nm)||known z)) W)/\(fun W=>aO 3 gS (fun b=>w.heap.size<b/\b≠b5/\b≠km) W (.slice pa pn pc) ps) W) i6 (w6.setCell ⟨b5,2,none⟩ (.slice pa pn pc))):=zh ((B6.out.add (F:=(fun W=>aO 3 gS (fun b=>w.heap.size<b/\b≠b5/\b≠km) W (.slice pa pn pc) ps)) hF6 (eS.row aZ YO (stbl_S fun b hb=>⟨fun e=>by have:=hb.1;omega,hb.2.1⟩))).put HW.out (cells':=#[.string nm,.bool pub,.slice pa pn pc,.int .i64 0,.slice none 0 0,.int .i64 0,.int .i64 0,.int .i64 0,.string ⟨#[]⟩,.string ⟨#[]⟩,.slice none 0 0,.slice none 0 0]) (Off.setCell (S:=fun b=>b=b5) w6 rfl) (by rw[aT B6.out.loc];rfl));clear uX sH vN hps hF6 HR5 B6 HI5 S9 GO;generalize w6.setCell ⟨b5,2,none⟩ (.slice pa pn pc)=w6' at *;go_wp2_with(go_at_call 115;refine(typed_any p w6' i6 NS.out.at_).mono ?_;rintro e w7 (⟨x7,tJ,rfl,sF⟩|⟨t,i7,tJ,⟨k,sa,sn,sc,rfl,uG,uE,OQ⟩,sF⟩)<;>first|(have R7:=zh (NS.out.nextP sF uE);obtain⟨⟨c0,c1,c2,c3,c4,c5,c6,c7,c8,c9,BK,BJ⟩,f0,f1,f2,f3,f4,f5,f6,f7,f8,f9,BW,BV⟩:=iS R7.out.loc)|skip)
 ·exact⟨rfl,Ran.bad' (HR6.out.trans (PR.bnd_bad tJ)) (NS.out.off.trans (sF.mono fun _ h=>.inl h))⟩
 have UL:=zh (HR6.out.trans (PR.bnd_ok tJ));have HI7:Hid (i<i7):=zh (by have:=HI6.out;omega);have HLv:Hid (bI t<=9000000000000000000):=zh (by have:=mR tJ;omega);have hF7:iY (fun b=>w.heap.size<b/\b≠b5/\b≠km) w7 t [.int .i64 k,.slice sa sn sc]:=fU.wide uG (fun b hb _=>by have hb:w6'.heap.size<=b:=hb;have:=NS.out.lt;exact⟨YM,YM,YM⟩);clear c0 c1 c2 c3 c4 c5 c6 c7 c8 c9 BK BJ f0 f1 f2 f3 f4 f5 f6 f7 f8 f9 BW BV;have MD:Hid (Mk 47 lN p (p.S2 km) p.S w b5 #[.string nm,.bool pub,.slice pa pn pc,.int .i64 k,.slice sa sn sc,.int .i64 0,.int .i64 0,.int .i64 0,.string ⟨#[]⟩,.string ⟨#[]⟩,.slice none 0 0,.slice none 0 0] (fun W=>((True/\(fun W=>bV kG fZ W km (n+1) (fC fun z=>decide (z=nm)||known z)) W)/\(fun W=>aO 3 gS (fun b=>w.heap.size<b/\b≠b5/\b≠km) W (.slice pa pn pc) ps) W)/\(fun W=>iY (fun b=>w.heap.size<b/\b≠b5/\b≠km) W t [.int .i64 k,.slice sa sn sc]) W) i7 ((w7.setCell ⟨b5,3,none⟩ (.int .i64 k)).setCell ⟨b5,4,none⟩ (.slice sa sn sc))):=zh ((R7.out.add (F:=(fun W=>iY (fun b=>w.heap.size<b/\b≠b5/\b≠km) W t [.int .i64 k,.slice sa sn sc])) hF7 (eS.enc fU (stbl_S fun b hb=>⟨fun e=>by have:=hb.1;omega,hb.2.1⟩))).put HW.out (cells':=#[.string nm,.bool pub,.slice pa pn pc,.int .i64 k,.slice sa sn sc,.int .i64 0,.int .i64 0,.int .i64 0,.string ⟨#[]⟩,.string ⟨#[]⟩,.slice none 0 0,.slice none 0 0]) ((Off.refl (fun b=>b=b5) w7).one.one) (by rw[aT (aT R7.out.loc _) _];rfl));obtain⟨⟨c0,c1,c2,c3,c4,c5,c6,c7,c8,c9,BK,BJ⟩,f0,f1,f2,f3,f4,f5,f6,f7,f8,f9,BW,BV⟩:=iS R7.out.loc;clear tJ sF uE uG hF7 HR6 HI6 OQ NS;go_wp2_with(go_at_call 117;refine(levels_any _ t _ k _ _ (Nat.le_refl _) HLv.out MD.out.enc.2).mono ?_;rintro e w8 ⟨rfl,uI⟩);clear c0 c1 c2 c3 c4 c5 c6 c7 c8 c9 BK BJ f0 f1 f2 f3 f4 f5 f6 f7 f8 f9 BW BV;have JL:=zh (MD.out.below uI);have HD:Hid (decide ((bI t:Int)<=4)=decide (bI t<=4)):=zh ZJ;skip
 cases hb:isP p.l i7 jA with
 |false=>
  skip;go_wp2_with(go_at_call 112;refine(gZ p w8 i7 jA JL.out.at_).mono ?_;rintro e w9 ⟨rfl,vG⟩;rw[hb]);have FH:=zh (JL.out.below vG);have HIq:=HI7;have UJ:=zh (UL.out.trans (PR.bnd_ok (bang_no hb)));go_wp2_with(go_at_call 116;refine(end_any p w9 i7 _ kEq FH.out.at_).mono ?_;rintro e w20 (⟨x20,zQ,rfl,CX⟩|⟨⟨⟩,i20,zQ,⟨rfl,LY⟩,CX⟩))
  ·rw[HD.out] at zQ;exact⟨rfl,Ran.bad' (UJ.out.trans (PR.bnd_bad zQ)) (FH.out.off.trans (CX.mono fun _ h=>.inl h))⟩
  rw[HD.out] at zQ;have DA:=zh (FH.out.nextP CX LY);have MJ:=zh (UJ.out.trans (PR.bnd_ok zQ));have hi20:=endP_ok zQ;clear zQ CX LY;go_wp2_with(go_at_call 118;refine(oK p HX.out w20 i20 dP DA.out.at_).mono ?_;rintro e N0 (⟨x21,FR,rfl,FW⟩|⟨x,i21,FR,⟨⟨op,n1,s1,m1,a1,m2,qa,a2,m3,qb,rfl,hex⟩,TT,hij21⟩,FW⟩)<;>first|(have yR:=zh (DA.out.nextP FW TT);obtain⟨⟨c0,c1,c2,c3,c4,c5,c6,c7,c8,c9,BK,BJ⟩,f0,f1,f2,f3,f4,f5,f6,f7,f8,f9,BW,BV⟩:=iS yR.out.loc;obtain⟨⟨r0,r1,r2,r3,r4,r5,r6,r7,r8,r9,zO,zN⟩,g0,g1,g2,g3,g4,g5,g6,g7,g8,g9,RU,g11⟩:=iS yR.out.res)|skip)
  ·exact⟨rfl,Ran.bad' (MJ.out.trans (PR.bnd_bad FR)) (DA.out.off.trans (FW.mono fun _ h=>.inl h))⟩
  have TY:(fun W=>bN (fun b=>w.heap.size<b/\b≠b5/\b≠km) W x [.int .i64 op,.int .i64 n1,.string s1,.string m1,.slice a1 m2 qa,.slice a2 m3 qb]) N0:=aI.wide hex (fun b hb _=>aAM);have BD:Mk 47 lN p (p.S2 km) p.S w b5 #[.string nm,.bool pub,.slice pa pn pc,.int .i64 k,.slice sa sn sc,.int .i64 0,.int .i64 op,.int .i64 n1,.string s1,.string m1,.slice a1 m2 qa,.slice a2 m3 qb] (fun W=>(fun W=>((True/\(fun W=>bV kG fZ W km (n+1) (fC fun z=>decide (z=nm)||known z)) W)/\(fun W=>aO 3 gS (fun b=>w.heap.size<b/\b≠b5/\b≠km) W (.slice pa pn pc) ps) W)/\(fun W=>iY (fun b=>w.heap.size<b/\b≠b5/\b≠km) W t [.int .i64 k,.slice sa sn sc]) W) W/\(fun W=>bN (fun b=>w.heap.size<b/\b≠b5/\b≠km) W x [.int .i64 op,.int .i64 n1,.string s1,.string m1,.slice a1 m2 qa,.slice a2 m3 qb]) W) i21 ((((((N0.setCell ⟨b5,6,none⟩ (.int .i64 op)).setCell ⟨b5,7,none⟩ (.int .i64 n1)).setCell ⟨b5,8,none⟩ (.string s1)).setCell ⟨b5,9,none⟩ (.string m1)).setCell ⟨b5,10,none⟩ (.slice a1 m2 qa)).setCell ⟨b5,11,none⟩ (.slice a2 m3 qb)):=(yR.out.add (F:=(fun W=>bN (fun b=>w.heap.size<b/\b≠b5/\b≠km) W x [.int .i64 op,.int .i64 n1,.string s1,.string m1,.slice a1 m2 qa,.slice a2 m3 qb])) TY (eS.enc aI (stbl_S fun b hb=>⟨fun e=>by have:=hb.1;omega,hb.2.1⟩))).put HW.out ((Off.refl (fun b=>b=b5) N0).one.one.one.one.one.one) (by rw[aT (aT (aT (aT (aT (aT yR.out.loc _) _) _) _) _) _];rfl);have EN:∀b,b=w.heap.size->¬(fun b=>w.heap.size<b/\b≠b5/\b≠km) b:=fun b hb hn=>by have:=hn.1;omega
  have hD:=BD.done HW.out (set12_off _ w.heap.size (.string nm) (.bool pub) (.slice pa pn pc) (.int .i64 k) (.slice sa sn sc) (.int .i64 0) (.int .i64 op) (.int .i64 n1) (.string s1) (.string m1) (.slice a1 m2 qa) (.slice a2 m3 qb)) ((((eS.true.and (eS.map YM)).and (eS.row aZ YO EN)).and (eS.enc fU EN)).and (eS.enc aI EN));unfold set12 at hD;refine bodyPost_ret (v:=oBx12 nm pub pa pn pc k sa sn sc 0 op n1 s1 m1 a1 m2 qa a2 m3 qb) aAU rfl ?_;obtain⟨⟨⟨⟨⟨-,I4⟩,sJ⟩,IT⟩,xX⟩,sD,FV⟩:=hD;exact WZ
 |true=>
  go_wp2_with(go_at_call 112;refine(gZ p w8 i7 jA JL.out.at_).mono ?_;rintro e w9 ⟨rfl,vG⟩;rw[hb]);have FH:=zh (JL.out.below vG);clear vG JL;go_wp2_with(go_at_call 116;refine(end_any p w9 i7 _ jA FH.out.at_).mono ?_;rintro e sV (⟨x10,wJ,rfl,vT⟩|⟨⟨⟩,JW,wJ,⟨rfl,yO⟩,vT⟩))
  ·rw[HD.out] at wJ;exact⟨rfl,Ran.bad' (UL.out.trans (PR.bnd_bad (bang_bad hb wJ))) (FH.out.off.trans (vT.mono fun _ h=>.inl h))⟩
  rw[HD.out] at wJ;have PL:=zh wJ;have PW:=zh (FH.out.nextP vT yO);have hi10:=endP_ok wJ;have HI10:Hid (i<JW):=zh (by have:=HI7.out;omega);have HJ0:Hid (i7<JW):=zh YM;clear yO vT wJ FH hi10;go_wp2_with(go_at_call 153;refine(fieldsEff sV PW.out.at_.spc).mono ?_;rintro e yB ⟨rfl,rfl⟩);have hb510:=PW.out.lt;have HS11:Hid (Mk 47 lN p (p.S2 km) p.S w b5 #[.string nm,.bool pub,.slice pa pn pc,.int .i64 k,.slice sa sn sc,.int .i64 0,.int .i64 0,.int .i64 0,.string ⟨#[]⟩,.string ⟨#[]⟩,.slice none 0 0,.slice none 0 0] (fun W=>(((True/\(fun W=>bV kG fZ W km (n+1) (fC fun z=>decide (z=nm)||known z)) W)/\(fun W=>aO 3 gS (fun b=>w.heap.size<b/\b≠b5/\b≠km) W (.slice pa pn pc) ps) W)/\(fun W=>iY (fun b=>w.heap.size<b/\b≠b5/\b≠km) W t [.int .i64 k,.slice sa sn sc]) W)/\(fun W=>∀j,j<bF.length->W.cell? ⟨sV.heap.size,0+j,none⟩=some (.string (bF.getD j ByteArray.empty))) W) JW (sV.alloc (.cells #[.string qF,.string kNet,.string qG,.string lH] 9))):=zh ((PW.out.below (aA sV (.cells (bF.map Value.string).toArray 9))).add (F:=(fun W=>∀j,j<bF.length->W.cell? ⟨sV.heap.size,0+j,none⟩=some (.string (bF.getD j ByteArray.empty)))) (effCells sV) (eS.cells (fun e=>Or.elim e (fun e=>by have e:sV.heap.size=p.pb:=e;omega) (fun e=>YM))));generalize sV.alloc (.cells #[.string qF,.string kNet,.string qG,.string lH] 9)=yB at *;generalize sV.heap.size=g at *;clear PW;go_loopw [35] (fun c wr=>∃(kk q en:Nat),kk<=4/\c=.int .i64 (kk:Int)/\Hid (en<2 ^ kk)/\Hid (Mk 47 lN p (p.S2 km) p.S w b5 #[.string nm,.bool pub,.slice pa pn pc,.int .i64 k,.slice sa sn sc,.int .i64 (en:Int),.int .i64 0,.int .i64 0,.string ⟨#[]⟩,.string ⟨#[]⟩,.slice none 0 0,.slice none 0 0] (fun W=>(((True/\(fun W=>bV kG fZ W km (n+1) (fC fun z=>decide (z=nm)||known z)) W)/\(fun W=>aO 3 gS (fun b=>w.heap.size<b/\b≠b5/\b≠km) W (.slice pa pn pc) ps) W)/\(fun W=>iY (fun b=>w.heap.size<b/\b≠b5/\b≠km) W t [.int .i64 k,.slice sa sn sc]) W)/\(fun W=>∀j,j<bF.length->W.cell? ⟨g,0+j,none⟩=some (.string (bF.getD j ByteArray.empty))) W) q wr)/\Hid (dQ p.l cR 0 JW=dQ p.l (cR.drop kk) (en:Int) q)/\Hid (JW<=q)) (fun c _=>4-(intOf c).toNat)
  case atStart=>exact⟨0,JW,0,YM,rfl,zh YO,by simpa using HS11,zh rfl,zh (Nat.le_refl _)⟩
  case round=>
   obtain⟨kk,q,en,hk4,rfl,SB,HS,sA,HJ⟩:=hrel;(rename World=>wr);have hen0:=SB.out;by_cases rU:kk<4
   ·have hc:=HS.out.enc.2 kk rU;rw[Nat.zero_add] at hc;have IF:=zh (effectL_at (l:=p.l) (n:=(en:Int)) (q:=q) rU);have M4:=zh (bit_pow rU);generalize bF.getD kk ByteArray.empty=word at hc IF M4
    cases hq:isP p.l q word with
    |true=>
     ·skip;have LN:=SB.out;clear hen0;go_wp2_with(go_at_call 120;refine(gM p wr q word HS.out.at_ hq).mono ?_;rintro e vS ⟨rfl,L0,K2⟩);have GP:=zh (HS.out.nextP K2 L0);clear L0 K2 hc;refine wp_region_held_drew (S:=(fun _=>True)) YN trivial fun hS=>?_;refine zq 0 (.pointer (some ⟨b5,5,none⟩)) rfl ?_;refine zq 2 (.string word) rfl ?_;(try simp only[zn]);refine wpAnyH_ready (rs:=[1,3]) YN YR ?_;refine AllReadyH.cons rfl (fun K hK=>?_) (AllReadyH.cons rfl (fun K hK=>?_) AllReadyH.nil)
      ·rw[if_pos YN];(try simp only[z1,z2,z3]);obtain⟨⟨c0,c1,c2,c3,c4,c5,c6,c7,c8,c9,BK,BJ⟩,f0,f1,f2,f3,f4,f5,f6,f7,f8,f9,BW,BV⟩:=iS (GP.out.below (aE _)).loc;go_simp;clear c0 c1 c2 c3 c4 c5 c6 c7 c8 c9 BK BJ f0 f1 f2 f3 f4 f5 f6 f7 f8 f9 BW BV;refine hK.out _ _ trivial (fun hS=>?_);clear hK K;(try simp only[zn]);refine zr 3 rfl (fun K hK=>?_);(try simp only[z1,z2,z3]);go_simp;refine(jN word vS.drew (GP.out.below (aE _)).at_.spc).mono ?_;rintro e CS ⟨rfl,TQ⟩;rw[M4.out];have wH:=zh ((GP.out.below (aE _)).below TQ);exact VP
      rw[if_pos YN];(try simp only[z1,z2,z3]);go_simp;refine(jN word vS.drew (GP.out.below (aE _)).at_.spc).mono ?_;rintro e CS ⟨rfl,TQ⟩;rw[M4.out];have wH:=zh ((GP.out.below (aE _)).below TQ);refine hK.out _ _ trivial (fun hS=>?_);clear hK K;(try simp only[zn]);refine zr 1 rfl (fun K hK=>?_);(try simp only[z1,z2,z3]);obtain⟨⟨c0,c1,c2,c3,c4,c5,c6,c7,c8,c9,BK,BJ⟩,f0,f1,f2,f3,f4,f5,f6,f7,f8,f9,BW,BV⟩:=iS wH.out.loc;go_simp;clear c0 c1 c2 c3 c4 c5 c6 c7 c8 c9 BK BJ f0 f1 f2 f3 f4 f5 f6 f7 f8 f9 BW BV;exact VP
    |false=>
     ·skip;go_wp2_with(go_at_call 120;refine(bG p wr q word HS.out.at_ hq).mono ?_;rintro e vS ⟨rfl,L0,K2⟩);have GP:=zh (HS.out.nextP K2 L0);have yQ:Hid (dQ p.l cR 0 JW=dQ p.l (cR.drop (kk+1)) (en:Int) q):=zh (by rw[sA.out,IF.out,hq,if_neg YR]);have FL:Hid (en<2 ^ (kk+1)):=zh (by rw[Nat.pow_succ];omega);clear L0 K2 hc;go_roundw;(case rel=>exact⟨kk+1,q,en,YM,YZ,FL,GP,yQ,HJ⟩);case measure=>simp[intOf];omega
   have hk:kk=4:=YM;subst hk
   ·skip;have HEf:Hid (dQ p.l cR 0 JW=((en:Int),q)):=zh sA.out;obtain⟨⟨c0,c1,c2,c3,c4,c5,c6,c7,c8,c9,BK,BJ⟩,f0,f1,f2,f3,f4,f5,f6,f7,f8,f9,BW,BV⟩:=iS HS.out.loc;go_wp2_with(go_at_call 49;refine(gN p wr q _ _ HS.out.at_).mono ?_;rintro e w16 (⟨he,rfl,rfl⟩|⟨he,rfl,EI⟩))
    ·have HIq:Hid (i<q):=zh (by have:=HI10.out;have:=HJ.out;omega);have UJ:=zh (UL.out.trans (PR.bnd_ok (bang_yes hb PL.out HEf.out aAS)));clear c0 c1 c2 c3 c4 c5 c6 c7 c8 c9 BK BJ f0 f1 f2 f3 f4 f5 f6 f7 f8 f9 BW BV;clear he;go_wp2_with(go_at_call 116;refine(end_any p wr q _ kEq HS.out.at_).mono ?_;rintro e w20 (⟨x20,zQ,rfl,CX⟩|⟨⟨⟩,i20,zQ,⟨rfl,LY⟩,CX⟩))
     ·exact⟨rfl,Ran.bad' (UJ.out.trans (PR.bnd_bad zQ)) (HS.out.off.trans (CX.mono fun _ h=>.inl h))⟩
     skip;have DA:=zh (HS.out.nextP CX LY);have MJ:=zh (UJ.out.trans (PR.bnd_ok zQ));have hi20:=endP_ok zQ;clear zQ CX LY;go_wp2_with(go_at_call 118;refine(oK p HX.out w20 i20 dP DA.out.at_).mono ?_;rintro e N0 (⟨x21,FR,rfl,FW⟩|⟨x,i21,FR,⟨⟨op,n1,s1,m1,a1,m2,qa,a2,m3,qb,rfl,hex⟩,TT,hij21⟩,FW⟩)<;>first|(have yR:=zh (DA.out.nextP FW TT);obtain⟨⟨c0,c1,c2,c3,c4,c5,c6,c7,c8,c9,BK,BJ⟩,f0,f1,f2,f3,f4,f5,f6,f7,f8,f9,BW,BV⟩:=iS yR.out.loc;obtain⟨⟨r0,r1,r2,r3,r4,r5,r6,r7,r8,r9,zO,zN⟩,g0,g1,g2,g3,g4,g5,g6,g7,g8,g9,RU,g11⟩:=iS yR.out.res)|skip)
     ·exact⟨rfl,Ran.bad' (MJ.out.trans (PR.bnd_bad FR)) (DA.out.off.trans (FW.mono fun _ h=>.inl h))⟩
     have TY:(fun W=>bN (fun b=>w.heap.size<b/\b≠b5/\b≠km) W x [.int .i64 op,.int .i64 n1,.string s1,.string m1,.slice a1 m2 qa,.slice a2 m3 qb]) N0:=aI.wide hex (fun b hb _=>aAM);have BD:Mk 47 lN p (p.S2 km) p.S w b5 #[.string nm,.bool pub,.slice pa pn pc,.int .i64 k,.slice sa sn sc,.int .i64 (en:Int),.int .i64 op,.int .i64 n1,.string s1,.string m1,.slice a1 m2 qa,.slice a2 m3 qb] (fun W=>(fun W=>(((True/\(fun W=>bV kG fZ W km (n+1) (fC fun z=>decide (z=nm)||known z)) W)/\(fun W=>aO 3 gS (fun b=>w.heap.size<b/\b≠b5/\b≠km) W (.slice pa pn pc) ps) W)/\(fun W=>iY (fun b=>w.heap.size<b/\b≠b5/\b≠km) W t [.int .i64 k,.slice sa sn sc]) W)/\(fun W=>∀j,j<bF.length->W.cell? ⟨g,0+j,none⟩=some (.string (bF.getD j ByteArray.empty))) W) W/\(fun W=>bN (fun b=>w.heap.size<b/\b≠b5/\b≠km) W x [.int .i64 op,.int .i64 n1,.string s1,.string m1,.slice a1 m2 qa,.slice a2 m3 qb]) W) i21 ((((((N0.setCell ⟨b5,6,none⟩ (.int .i64 op)).setCell ⟨b5,7,none⟩ (.int .i64 n1)).setCell ⟨b5,8,none⟩ (.string s1)).setCell ⟨b5,9,none⟩ (.string m1)).setCell ⟨b5,10,none⟩ (.slice a1 m2 qa)).setCell ⟨b5,11,none⟩ (.slice a2 m3 qb)):=(yR.out.add (F:=(fun W=>bN (fun b=>w.heap.size<b/\b≠b5/\b≠km) W x [.int .i64 op,.int .i64 n1,.string s1,.string m1,.slice a1 m2 qa,.slice a2 m3 qb])) TY (eS.enc aI (stbl_S fun b hb=>⟨fun e=>by have:=hb.1;omega,hb.2.1⟩))).put HW.out ((Off.refl (fun b=>b=b5) N0).one.one.one.one.one.one) (by rw[aT (aT (aT (aT (aT (aT yR.out.loc _) _) _) _) _) _];rfl);(have EN:∀b,b=w.heap.size->¬(fun b=>w.heap.size<b/\b≠b5/\b≠km) b:=fun b hb hn=>by have:=hn.1;omega);have hD:=BD.done HW.out (set12_off _ w.heap.size (.string nm) (.bool pub) (.slice pa pn pc) (.int .i64 k) (.slice sa sn sc) (.int .i64 (en:Int)) (.int .i64 op) (.int .i64 n1) (.string s1) (.string m1) (.slice a1 m2 qa) (.slice a2 m3 qb)) (((((eS.true.and (eS.map YM)).and (eS.row aZ YO EN)).and (eS.enc fU EN)).and (eS.cells YM)).and (eS.enc aI EN));unfold set12 at hD;refine bodyPost_ret (v:=oBx12 nm pub pa pn pc k sa sn sc (en:Int) op n1 s1 m1 a1 m2 qa a2 m3 qb) aAU rfl ?_;obtain⟨⟨⟨⟨⟨⟨-,I4⟩,sJ⟩,IT⟩,-⟩,xX⟩,sD,FV⟩:=hD;exact WZ
    have UJ:=UL.out.trans (PR.bnd_bad (bang_zero hb PL.out HEf.out aAS));exact⟨rfl,Ran.bad UJ (HS.out.off.trans (Ba EI))⟩
end Go.Proofs.YtiionicikdnnpaaGreatDoor
namespace Go.Proofs.YtiionicikdnnpaaGreatDoor
open Go.RowKit
theorem catch_idle(a b:Nat)(w:World):CallsD Tryz.prog 109 #[.pointer (some ⟨a,0,none⟩),.pointer (some ⟨b,0,none⟩)] .returning w fun e u' w'=>e=.returned (.tuple #[])/\u'=.returning/\w'=w:=by
 refine callsD_of_wpS Tryz.func109 rfl fun c₀ cs hu=>?_;apply wpS_seq;apply wpS_region;simp[wpOpsS,go_sem,recoverD,hu,Tryz.ntmps109,Exit.thenS];refine wpS_of_wp ?_;simp only[Array.replicate_succ,Array.replicate_zero,List.push_toArray,List.append_toArray,List.nil_append,List.cons_append,List.setIfInBounds_toArray,List.set_cons_zero,List.set_cons_succ]
 go_wp2
 cases c₀;simp_all [bodyPostS,results,Tryz.results109]
theorem catch_fault(a b:Nat)(x:Int×Int)(older:List PanicEntry)(w:World)(ha:w.heap[a]? =some (kD 0))(hb:w.heap[b]? =some (oBx27 0)):
  CallsD Tryz.prog 109 #[.pointer (some ⟨a,0,none⟩),.pointer (some ⟨b,0,none⟩)] (.panicking ({v:=.iface 144 (.agg #[.int .i64 x.1,.int .i64 x.2]),recovered:=false}::older)) w fun e u' w'=>
   e=.returned (.tuple #[])/\u'=.panicking ({v:=.iface 144 (.agg #[.int .i64 x.1,.int .i64 x.2]),recovered:=true}::older)/\Off (fun k=>k=a\/k=b) w w'/\w'.heap[a]? =some (kD x.1)/\w'.heap[b]? =some (oBx27 x.2):=by
 refine callsD_of_wpS Tryz.func109 rfl fun c₀ cs hu=>?_;apply wpS_seq;apply wpS_region;simp[wpOpsS,go_sem,recoverD,hu,Tryz.ntmps109,Exit.thenS];refine wpS_of_wp ?_;simp only[Array.replicate_succ,Array.replicate_zero,List.push_toArray,List.append_toArray,List.nil_append,List.cons_append,List.setIfInBounds_toArray,List.set_cons_zero,List.set_cons_succ];obtain⟨a0,a1⟩:=bx ha 0 (u:=.int .i64 0) rfl;obtain⟨b0,b1⟩:=bx hb 0 (u:=.int .i64 0) rfl;have AC:=(Array.getElem?_eq_some_iff.1 ha).1;have NH:=(Array.getElem?_eq_some_iff.1 hb).1;have HT:∀(x1 x2:Int)(w:World),(Instr.typeAssert (.iface 144 (.agg #[.int .i64 x1,.int .i64 x2])) 20 144 true).run Tryz.prog w=.ok (.tuple #[.agg #[.int .i64 x1,.int .i64 x2],.bool true]) w:=fun x1 x2 w=>YN;have hab:a≠b:=by rintro rfl;rw[ha] at hb;cases hb
 go_wp2
 refine wp_region_held_drew (S:=(fun W=>W.heap[w.heap.size]? =some (.cells #[.int .i64 x.1,.int .i64 x.2] 144))) YN (by exact bY w _) fun hS=>?_;refine zq 0 (.pointer (some ⟨w.heap.size,0,none⟩)) rfl ?_;refine zt 1 (.int .i64 x.1) rfl (fun W hW=>by obtain⟨k0,k1,-⟩:=bxT2 hW;go_simp) ?_;refine zq 2 (.pointer (some ⟨w.heap.size,1,none⟩)) rfl ?_;refine zt 3 (.int .i64 x.2) rfl (fun W hW=>by obtain⟨k0,k1,-⟩:=bxT2 hW;go_simp) ?_;try simp only[zn]
 have hna:¬w.heap.size=a:=YM;have wR:¬w.heap.size=b:=YM;refine zr 4 rfl (fun K hK=>?_);try simp only[z1,z2,z3]
 go_simp;refine hK.out _ _ (by have h:=bY (w.setCell ⟨a,0,none⟩ (.int .i64 x.1)) (.cells #[.int .i64 x.1,.int .i64 x.2] 144);rw[gC] at h;exact h) (fun hS=>?_);clear hK K;try simp only[zn]
 refine zr 5 rfl (fun K hK=>?_);try simp only[z1,z2,z3]
 go_simp;refine hK.out _ _ (by have h:=bY ((w.setCell ⟨a,0,none⟩ (.int .i64 x.1)).setCell ⟨b,0,none⟩ (.int .i64 x.2)) (.cells #[.int .i64 x.1,.int .i64 x.2] 144);rw[gC,gC] at h;exact h) (fun hS=>?_);clear hK K;try simp only[zn]
 refine wpAnyH_done YN ?_ _
 go_wp2
 simp[bodyPostS,results,Tryz.results109];have oa:Off (fun k=>k=a\/k=b) w ((w.setCell ⟨a,0,none⟩ (.int .i64 x.1)).setCell ⟨b,0,none⟩ (.int .i64 x.2)):=(Off.setCell (S:=fun k=>k=a\/k=b) w (.inl rfl)).trans (Off.setCell (S:=fun k=>k=a\/k=b) _ (.inr rfl));have sS:((w.setCell ⟨a,0,none⟩ (.int .i64 x.1)).setCell ⟨b,0,none⟩ (.int .i64 x.2)).heap[a]? =some (kD x.1):=by rw[Below.heap_setCell _ _ _ _ (by show a≠b;exact hab),aT ha];rfl
 have rQ:((w.setCell ⟨a,0,none⟩ (.int .i64 x.1)).setCell ⟨b,0,none⟩ (.int .i64 x.2)).heap[b]? =some (oBx27 x.2):=by rw[aT ((Below.heap_setCell _ _ _ _ (by show b≠a;exact fun e=>hab e.symm)).trans hb)];rfl
 exact⟨(oa.trans (Ba (aA _ _))).drew,aH (aA _ _).drew sS,aH (aA _ _).drew rQ⟩
end Go.Proofs.YtiionicikdnnpaaGreatDoor
