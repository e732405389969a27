/- Texts of this seat, joined. -/
import Derived.Test.YtiionicikdnnpaaGreatDoorCAD
set_option maxHeartbeats 16000000
set_option maxRecDepth 100000
set_option linter.unusedVariables false
set_option linter.unusedSimpArgs false
namespace Go.Proofs.YtiionicikdnnpaaGreatDoor
open Go.RowKit
def NeedsSays(i:Ins)(vn:Value)(w:World):Prop:=
 Calls Tryz.prog 269 #[.agg #[.int .i64 i.op,.int .i64 i.a,.string i.s,.string i.m,vn]] w fun e w'=>e=.returned (.tuple #[.int .i64 (lD i).1,.int .i64 (lD i).2])/\Below w.heap.size w w'
theorem cneeds_any(i:Ins)(an:Option Addr)(cn:Nat)(w:World)(h0:0<=i.op)(h1:i.op<20):NeedsSays i (.slice an i.names.length cn) w:=by
 obtain⟨op,a,s,m,names⟩:=i;dsimp only at h0 h1;unfold NeedsSays
 obtain⟨p,q,e,hc⟩:∃p q:Int,lD ⟨op,a,s,m,names⟩=(p,q)/\(op=0/\p=0/\q=1\/op=1/\p=0/\q=1\/op=2/\p=0/\q=1\/op=3/\p=1/\q=0\/op=4/\p=2/\q=1\/op=5/\p=2/\q=1\/op=6/\p=2/\q=1\/op=7/\p=2/\q=1\/op=8/\p=2/\q=1\/op=9/\p=1/\q=1\/op=10/\p=0/\q=0\/op=11/\p=1/\q=0\/op=12/\p=(names.length:Int)/\q=1\/op=13/\p=1/\q=1\/op=14/\p=a/\q=1\/op=15/\p=1/\q=1\/op=16/\p=0/\q=1\/op=17/\p=1/\q=1\/op=18/\p=1/\q=0\/op=19/\p=1/\q=0):=by
  have hc:op=0\/op=1\/op=2\/op=3\/op=4\/op=5\/op=6\/op=7\/op=8\/op=9\/op=10\/op=11\/op=12\/op=13\/op=14\/op=15\/op=16\/op=17\/op=18\/op=19:=YM;rcases hc with rfl|rfl|rfl|rfl|rfl|rfl|rfl|rfl|rfl|rfl|rfl|rfl|rfl|rfl|rfl|rfl|rfl|rfl|rfl|rfl<;>exact⟨_,_,rfl,YR⟩
 rw[e];clear e h0 h1;dsimp only;rcases hc with⟨rfl,rfl,rfl⟩|⟨rfl,rfl,rfl⟩|⟨rfl,rfl,rfl⟩|⟨rfl,rfl,rfl⟩|⟨rfl,rfl,rfl⟩|⟨rfl,rfl,rfl⟩|⟨rfl,rfl,rfl⟩|⟨rfl,rfl,rfl⟩|⟨rfl,rfl,rfl⟩|⟨rfl,rfl,rfl⟩|⟨rfl,rfl,rfl⟩|⟨rfl,rfl,rfl⟩|⟨rfl,rfl,rfl⟩|⟨rfl,rfl,rfl⟩|⟨rfl,rfl,rfl⟩|⟨rfl,rfl,rfl⟩|⟨rfl,rfl,rfl⟩|⟨rfl,rfl,rfl⟩|⟨rfl,rfl,rfl⟩|⟨rfl,rfl,rfl⟩
 all_goals
  go_enter Tryz.func269,Tryz.ntmps269;go_wp2_with fail;go_ret2;exact⟨rfl,aA _ _⟩
theorem alloc3(w:World)(A B C:Obj):(((w.alloc A).alloc B).alloc C).heap[w.heap.size+1+1]? =some C:=by
 have h:=bY ((w.alloc A).alloc B) C;rw[show((w.alloc A).alloc B).heap.size=w.heap.size+1+1 by simp] at h;exact h
theorem cints_nil(w:World):nA w (.slice none 0 0) []:=⟨none,0,rfl,YR,YR,fun h=>absurd rfl h⟩
theorem ints_of{w:World}{b n:Nat}{l:List Int}{t:TypeId}(h:w.heap[b]? =some (.cells (l.map (Value.int .i64)).toArray t))(hn:l.length=n)(hl:l.length<=9223372036854775807):nA w (.slice (some ⟨b,0,none⟩) n n) l:=by
 subst hn;refine⟨_,_,rfl,Nat.le_refl _,hl,fun _=>⟨b,0,rfl,fun i x hx=>⟨[.int .i64 x],rfl,rfl,fun j u hu=>?_⟩⟩⟩
 cases j with
 |zero=>
  simp at hu;subst hu;simp[World.cell?,h,hx]
 |succ j=>simp at hu
def fY(op a:Int)(k n:Nat)(nm:bA)(pr lc:Int)(b o cp:Nat)(r:List Int)(w:World):Prop:=
 Calls Tryz.prog 270 #[oBx22 nm pr lc (some ⟨b,o,none⟩) n cp,.int .i64 (k:Int)] w fun e w'=>∃x y z,e=.returned (.slice x y z)/\nA w' (.slice x y z) r/\Below w.heap.size w w'/\∀k,(Value.slice x y z).ownBlock=some k->w.heap.size<=k
theorem behind_18(op a:Int)(k n:Nat)(nm s m:bA)(pr lc:Int)(an:Option Addr)(ln cn b o cp:Nat)(w:World)(hk:k<n)(hn:n<=1000000000000)(tN:op=18)(h0:w.cell? ⟨b,o+k*5,none⟩=some (.int .i64 op))(h1:w.cell? ⟨b,o+k*5+1,none⟩=some (.int .i64 a))(h2:w.cell? ⟨b,o+k*5+2,none⟩=some (.string s))(h3:w.cell? ⟨b,o+k*5+3,none⟩=some (.string m))(h4:w.cell? ⟨b,o+k*5+4,none⟩=some (.slice an ln cn)):
  fY op a k n nm pr lc b o cp [] w:=by
 unfold fY;have rU:=dS h0;subst tN;go_enter Tryz.func270,Tryz.ntmps270;go_wp2_with fail;go_ret;exact⟨_,_,_,rfl,cints_nil _,by repeat(first|exact Below.refl _ _|refine Below.drew ?_|refine Below.alloc ?_ Z5 _|refine Below.setCell ?_ Z5 _),fun k hk=>by simp[Value.ownBlock] at hk⟩
theorem behind_10(op a:Int)(k n:Nat)(nm s m:bA)(pr lc:Int)(an:Option Addr)(ln cn b o cp:Nat)(w:World)(hk:k<n)(hn:n<=1000000000000)(tN:op=10)(h0:w.cell? ⟨b,o+k*5,none⟩=some (.int .i64 op))(h1:w.cell? ⟨b,o+k*5+1,none⟩=some (.int .i64 a))(h2:w.cell? ⟨b,o+k*5+2,none⟩=some (.string s))(h3:w.cell? ⟨b,o+k*5+3,none⟩=some (.string m))(h4:w.cell? ⟨b,o+k*5+4,none⟩=some (.slice an ln cn)):
  fY op a k n nm pr lc b o cp [a] w:=by
 unfold fY;have rU:=dS h0;subst tN;go_enter Tryz.func270,Tryz.ntmps270;go_wp2_with fail;go_ret;exact⟨_,_,_,rfl,ints_of (l:=[a]) (t:=3) (alloc3 w _ _ _) rfl YR,by repeat(first|exact Below.refl _ _|refine Below.drew ?_|refine Below.alloc ?_ Z5 _|refine Below.setCell ?_ Z5 _),fun k hk=>aA9⟩
theorem behind_11(op a:Int)(k n:Nat)(nm s m:bA)(pr lc:Int)(an:Option Addr)(ln cn b o cp:Nat)(w:World)(hk:k<n)(hn:n<=1000000000000)(tN:op=11)(h0:w.cell? ⟨b,o+k*5,none⟩=some (.int .i64 op))(h1:w.cell? ⟨b,o+k*5+1,none⟩=some (.int .i64 a))(h2:w.cell? ⟨b,o+k*5+2,none⟩=some (.string s))(h3:w.cell? ⟨b,o+k*5+3,none⟩=some (.string m))(h4:w.cell? ⟨b,o+k*5+4,none⟩=some (.slice an ln cn)):
  fY op a k n nm pr lc b o cp [(k:Int)+1,a] w:=by
 unfold fY;have rU:=dS h0;subst tN;go_enter Tryz.func270,Tryz.ntmps270;go_wp2_with fail;go_ret;exact⟨_,_,_,rfl,ints_of (l:=[(k:Int)+1,a]) (t:=3) (alloc3 w _ _ _) rfl YR,by repeat(first|exact Below.refl _ _|refine Below.drew ?_|refine Below.alloc ?_ Z5 _|refine Below.setCell ?_ Z5 _),fun k hk=>aA9⟩
theorem behind_else(op a:Int)(k n:Nat)(nm s m:bA)(pr lc:Int)(an:Option Addr)(ln cn b o cp:Nat)(w:World)(hk:k<n)(hn:n<=1000000000000)(tN:op≠18/\op≠10/\op≠11)(h0:w.cell? ⟨b,o+k*5,none⟩=some (.int .i64 op))(h1:w.cell? ⟨b,o+k*5+1,none⟩=some (.int .i64 a))(h2:w.cell? ⟨b,o+k*5+2,none⟩=some (.string s))(h3:w.cell? ⟨b,o+k*5+3,none⟩=some (.string m))(h4:w.cell? ⟨b,o+k*5+4,none⟩=some (.slice an ln cn)):
  fY op a k n nm pr lc b o cp [(k:Int)+1] w:=by
 unfold fY;have rU:=dS h0;have g18:(op==18)=false:=by rw[beq_eq_false_iff_ne];exact tN.1
 have RU:(op==10)=false:=by rw[beq_eq_false_iff_ne];exact tN.2.1
 have g11:(op==11)=false:=by rw[beq_eq_false_iff_ne];exact tN.2.2
 clear tN;go_enter Tryz.func270,Tryz.ntmps270;go_wp2_with fail;go_ret;exact⟨_,_,_,rfl,ints_of (l:=[(k:Int)+1]) (t:=3) (alloc3 w _ _ _) rfl YR,by repeat(first|exact Below.refl _ _|refine Below.drew ?_|refine Below.alloc ?_ Z5 _|refine Below.setCell ?_ Z5 _),fun k hk=>aA9⟩
def mN(w:World)(g:Nat)(L:List Int):Prop:=w.heap[g]? =some (.cells (L.map (Value.int .i64)).toArray 3)
section
variable {w w':World} {g:Nat} {L:List Int}
theorem mN.lt(h:mN w g L):g<w.heap.size:=(Array.getElem?_eq_some_iff.1 h).1
theorem mN.later(h:mN w g L)(hb:Below w.heap.size w w'):mN w' g L:=aH hb h
theorem mN.at_(h:mN w g L){i:Nat}{q:Int}(hq:L[i]? =some q):w.cell? ⟨g,i,none⟩=some (.int .i64 q)/\w.frozen? ⟨g,i,none⟩=false:=by
 refine⟨?_,?_⟩<;>simp[World.cell?,World.frozen?,show w.heap[g]? =_ from h,hq]
theorem mN.get(h:mN w g L){i:Nat}(hi:i<L.length):w.cell? ⟨g,i,none⟩=some (.int .i64 (L.getD i 0))/\w.frozen? ⟨g,i,none⟩=false:=by
 refine h.at_ ?_;rw[List.getD_eq_getElem?_getD,List.getElem?_eq_getElem hi];rfl
theorem mN.set(h:mN w g L)(i:Nat)(q:Int):mN (w.setCell ⟨g,i,none⟩ (.int .i64 q)) g (L.set i q):=by
 unfold mN;rw[aT h];simp
theorem mN.off{S:Nat->Prop}(h:mN w g L)(ho:Off S w w')(hS:¬S g):mN w' g L:=ho.heap hS h
end
theorem made_int(n:Nat):madeCells #[.int .i64 0] n=((List.replicate n (0:Int)).map (Value.int .i64)).toArray:=by
 apply Array.toList_inj.1;rw[toList_madeCells_one];simp
theorem make_ints(n:Nat)(hn:n<=1000000000000)(w:World):(Instr.makeSlice 70 (.int .i64 (n:Int)) (.int .i64 (n:Int))).run Tryz.prog w=.ok (.slice (some ⟨w.heap.size,0,none⟩) n n) (w.alloc (.cells ((List.replicate n (0:Int)).map (Value.int .i64)).toArray 3)):=by
 obtain⟨i0,xK,vA,tF,sY⟩:=info_parts intInfo;have:=run_make (P:=Tryz.prog) w 70 3 i0 _ Tryz.underlying70 xK vA .i64 .i64 n n YM (Int.le_refl _) (by rw[sY];omega) YM;rw[this,tF,<-made_int,Nat.mul_one];rfl
def Que(B:Nat)(v:Value)(l:List Int)(w:World):Prop:=∃g off cap cur,v=.slice (some ⟨g,off,none⟩) l.length cap/\B<=g/\w.heap[g]? =some (.cells cur 3 (0,0))/\l.length<=cap/\cap<=maxLen/\off+cap<=cur.size/\∀i x,l[i]? =some x->cur[off+i]? =some (.int .i64 x)
section
variable {B:Nat} {v:Value} {l:List Int} {w w':World}
theorem Que.first{k:Int}{b:Nat}(hb:w.heap[b]? =some (kD k))(hB:B<=b):Que B (.slice (some ⟨b,0,none⟩) 1 1) [k] w:=
 ⟨b,0,1,_,rfl,hB,hb,Nat.le_refl _,YO,YR,fun i x hx=>by
  cases i with
  |zero=>simp at hx;subst hx;rfl
  |succ i=>simp at hx⟩
theorem Que.off{S:Nat->Prop}(h:Que B v l w)(ho:Off S w w')(hS:∀b,v.ownBlock=some b->¬S b):Que B v l w':=by
 obtain⟨g,off,cap,cur,rfl,h1,h2,h3⟩:=h;exact⟨g,off,cap,cur,rfl,h1,ho.heap (hS g rfl) h2,h3⟩
theorem Que.later(h:Que B v l w)(hb:Below w.heap.size w w'):Que B v l w':=h.off (Ba (S:=fun _=>False) hb) (fun _ _ h=>h)
theorem Que.own(h:Que B v l w):∀b,v.ownBlock=some b->B<=b/\b<w.heap.size:=by
 obtain⟨g,off,cap,cur,rfl,h1,h2,h3⟩:=h;intro b hb;have e:g=b:=aAA;subst e;exact⟨h1,(Array.getElem?_eq_some_iff.1 h2).1⟩
theorem Que.pop{k:Int}(h:Que B v (k::l) w):∃g off cap,v=.slice (some ⟨g,off,none⟩) (l.length+1) (cap+1)/\l.length<=cap/\cap<=maxLen/\w.cell? ⟨g,off,none⟩=some (.int .i64 k)/\Que B (.slice (some ⟨g,off+1,none⟩) l.length cap) l w:=by
 obtain⟨g,off,cap,cur,rfl,h1,h2,h3,h4,h5,h6⟩:=h;simp only[List.length_cons] at h3;obtain⟨cap',rfl⟩:∃c,cap=c+1:=⟨cap-1,YM⟩;refine⟨g,off,cap',rfl,YM,YM,?_,g,off+1,cap',cur,rfl,h1,h2,YM,YM,YM,fun i x hx=>?_⟩
 ·have:=h6 0 k rfl;simp only[Nat.add_zero] at this;simp[World.cell?,h2,this]
 have:=h6 (i+1) x (by simpa using hx);rw[show off+1+i=off+(i+1) by omega];exact this
end
theorem pM{ops:Array Oper}{rest:List Oper}{o:Oper}{a:Act}{Q:Exit->Act->World->Prop}{B:Nat}{v:Value}{l:List Int}{w:World}{k:Int}{nb:Nat}(hg:o.guard=none)(s x:Operand)
  (tN:o.op=Op.call {callee:=Callee.builtin Builtin.append,args:=#[s,x],argTypes:=#[70,70]}) (hq:Que B v l w) (hs:a.eval s=v) (hx:a.eval x=.slice (some ⟨nb,0,none⟩) 1 1)
  (wR:w.heap[nb]? =some (kD k)) (hlen:l.length<=1000000000000) (hB:B<=w.heap.size)
  (hK:∀v' w',Que B v' (l++[k]) w'->Off (fun b=>v.ownBlock=some b) w w'->(∀b,v'.ownBlock=some b->v.ownBlock=some b\/w.heap.size<=b)->wpList Tryz.prog ops Q rest (a.put o.dst v') w'):wpList Tryz.prog ops Q (o::rest) a w:=by
 obtain⟨i0,xK,vA,tF,sY⟩:=info_parts intInfo;obtain⟨g,off,cap,cur,rfl,h1,h2,h3,h4,h5,h6⟩:=hq
 have hcur:∀j u,(l.map (Value.int .i64))[j]? =some u->w.cell? ⟨g,off+j,none⟩=some u:=fun j u hu=>by
  rw[List.getElem?_map] at hu
  cases hl:l[j]? with
  |none=>rw[hl] at hu;cases hu
  |some y=>rw[hl] at hu;cases hu;simp[World.cell?,h2,h6 j y hl]
 refine wpList_append_arg w hg s x 70 tN 3 i0 _ 1 8 Tryz.underlying70 xK vA tF sY rfl YO g off l.length cap (l.map (Value.int .i64)) hs YR hcur ⟨nb,0,none⟩ 1 1 [.int .i64 k] hx rfl (World.news_of_block (cs:=#[.int .i64 k]) (t:=3) (fr:=(0,0)) wR) Y3
  (fun hr j hj=>?_) Y7 YM (fun hr=>?_) (fun hr v' w' rP rN=>?_)
 ·have hj0:j=0:=by simpa using hj
  subst hj0;have rU:off+l.length*1+0<cur.size:=YM;have:=bx h2 (off+l.length*1+0) (u:=cur[off+l.length*1+0]) (Array.getElem?_eq_getElem rU);exact⟨by rw[this.1];rfl,this.2⟩
 ·refine hK _ _ ⟨g,off,cap,cur.setIfInBounds (off+l.length) (.int .i64 k),YR,h1,?_,by simpa using hr,h4,by simpa using h5,fun i y hy=>?_⟩ ?_ (fun b hb=>.inl hb)
  ·rw[Nat.mul_one];exact aT h2 _
  ·by_cases hi:i<l.length
   ·rw[List.getElem?_append_left hi] at hy;rw[Array.getElem?_setIfInBounds_ne YM];exact h6 i y hy
   have LH:i=l.length:=by
    have:=(Yb.1 hy).1;simp at this;omega
   subst LH;simp at hy;subst hy;rw[Array.getElem?_setIfInBounds_self_of_lt YM]
  exact Off.setCell (S:=fun b=>(Value.slice (some ⟨g,off,none⟩) l.length cap).ownBlock=some b) w (o:=off+l.length*1) rfl
 obtain⟨A2,zC⟩:=rP;rcases zC with⟨-,h0⟩|⟨g',cap',cur',rfl,LI,D9,r1,r2,r3,r4⟩
 ·omega
 refine hK _ _ ⟨g',0,cap',cur',YR,Nat.le_trans hB LI,D9,by simpa using r1,r2,YM,fun i y hy=>?_⟩ (Ba ⟨rN.os,rN.tape,rN.output,rN.size,fun k hk=>rN.block k hk YR⟩) (fun b hb=>.inr ?_)
 ·have hi:i<l.length+1:=by have:=(Yb.1 hy).1;simpa using this
  have h7:(l++[k]).map (Value.int .i64)=cur'.toList.take ((l.length+1)*1):=by rw[r4];simp
  have h8:=congrArg (fun t:List Value=>t[i]?) h7;simp only[List.getElem?_map,hy,List.getElem?_take,if_pos (show i<(l.length+1)*1 by omega)] at h8;rw[Nat.zero_add];simpa using h8.symm
 have e:g'=b:=aAA;subst e;exact LI
end Go.Proofs.YtiionicikdnnpaaGreatDoor
namespace Go.Proofs.YtiionicikdnnpaaGreatDoor
open Go.RowKit
theorem formed_none(c:Cod)(op a:Int)(s m:bA)(names:List bA)(ac:Option Addr)(cc:Nat)(an:Option Addr)(cn:Nat)(w:World)(tN:¬(0<=op/\op<20)):
  cT c ⟨op,a,s,m,names⟩ (.slice ac c.code.length cc) (.slice an names.length cn) w:=by
 unfold cT;dsimp only;have e0:op≠0:=YM;have e1:op≠1:=YM;have e2:op≠2:=YM;have e3:op≠3:=YM;have e4:op≠4:=YM;have e5:op≠5:=YM;have e6:op≠6:=YM;have e7:op≠7:=YM;have e8:op≠8:=YM;have e9:op≠9:=YM;have e10:op≠10:=YM;have e11:op≠11:=YM;have e12:op≠12:=YM;have e13:op≠13:=YM;have e14:op≠14:=YM;have e15:op≠15:=YM;have e16:op≠16:=YM;have e17:op≠17:=YM;have PG:op≠18:=YM;have e19:op≠19:=YM;have HR:Hid (cQ c ⟨op,a,s,m,names⟩=false):=zh (by simp[cQ,e0,e1,e2,e3,e4,e5,e6,e7,e8,e9,e10,e11,e12,e13,e14,e15,e16,e17,PG,e19]);have g0:(op==0)=false:=by rw[beq_eq_false_iff_ne];exact e0
 have g1:(op==1)=false:=by rw[beq_eq_false_iff_ne];exact e1
 have g2:(op==2)=false:=by rw[beq_eq_false_iff_ne];exact e2
 have g3:(op==3)=false:=by rw[beq_eq_false_iff_ne];exact e3
 have g4:(op==4)=false:=by rw[beq_eq_false_iff_ne];exact e4
 have g5:(op==5)=false:=by rw[beq_eq_false_iff_ne];exact e5
 have g6:(op==6)=false:=by rw[beq_eq_false_iff_ne];exact e6
 have g7:(op==7)=false:=by rw[beq_eq_false_iff_ne];exact e7
 have g8:(op==8)=false:=by rw[beq_eq_false_iff_ne];exact e8
 have g9:(op==9)=false:=by rw[beq_eq_false_iff_ne];exact e9
 have RU:(op==10)=false:=by rw[beq_eq_false_iff_ne];exact e10
 have g11:(op==11)=false:=by rw[beq_eq_false_iff_ne];exact e11
 have g12:(op==12)=false:=by rw[beq_eq_false_iff_ne];exact e12
 have g13:(op==13)=false:=by rw[beq_eq_false_iff_ne];exact e13
 have g14:(op==14)=false:=by rw[beq_eq_false_iff_ne];exact e14
 have g15:(op==15)=false:=by rw[beq_eq_false_iff_ne];exact e15
 have g16:(op==16)=false:=by rw[beq_eq_false_iff_ne];exact e16
 have g17:(op==17)=false:=by rw[beq_eq_false_iff_ne];exact e17
 have g18:(op==18)=false:=by rw[beq_eq_false_iff_ne];exact PG
 have g19:(op==19)=false:=by rw[beq_eq_false_iff_ne];exact e19
 clear tN e0 e1 e2 e3 e4 e5 e6 e7 e8 e9 e10 e11 e12 e13 e14 e15 e16 e17 PG e19;go_enter Tryz.func268,Tryz.ntmps268;go_wp2_with fail;go_quiet(fail)
 go_wp2_with fail;exact VY
theorem formed_any(c:Cod)(i:Ins)(ac:Option Addr)(cc:Nat)(an:Option Addr)(cn:Nat)(N:Nat->Prop)(w:World)(hg:eJ w)(hs:i.s.size<=8000)(hm:i.m.size<=8000)(hn:aO 1 dD N w (.slice an i.names.length cn) i.names):
  cT c i (.slice ac c.code.length cc) (.slice an i.names.length cn) w:=by
 obtain⟨op,a,s,m,names⟩:=i;dsimp only at hs hm hn ⊢;by_cases h:0<=op/\op<20
 ·have hc:op=0\/op=1\/op=2\/op=3\/op=4\/op=5\/op=6\/op=7\/op=8\/op=9\/op=10\/op=11\/op=12\/op=13\/op=14\/op=15\/op=16\/op=17\/op=18\/op=19:=YM;rcases hc with rfl|rfl|rfl|rfl|rfl|rfl|rfl|rfl|rfl|rfl|rfl|rfl|rfl|rfl|rfl|rfl|rfl|rfl|rfl|rfl
  ·exact formed_0 c a s m names ac cc an cn N w hg hs hm hn
  ·exact formed_1 c a s m names ac cc an cn N w hg hs hm hn
  ·exact formed_loc 2 YR c a s m names ac cc an cn N w hg hs hm hn
  ·exact formed_loc 3 YR c a s m names ac cc an cn N w hg hs hm hn
  ·exact jL 4 YR c a s m names ac cc an cn N w hg hs hm hn
  ·exact jL 5 YR c a s m names ac cc an cn N w hg hs hm hn
  ·exact jL 6 YR c a s m names ac cc an cn N w hg hs hm hn
  ·exact jL 7 YR c a s m names ac cc an cn N w hg hs hm hn
  ·exact jL 8 YR c a s m names ac cc an cn N w hg hs hm hn
  ·exact jL 9 YR c a s m names ac cc an cn N w hg hs hm hn
  ·exact formed_code 10 YR c a s m names ac cc an cn N w hg hs hm hn
  ·exact formed_code 11 YR c a s m names ac cc an cn N w hg hs hm hn
  ·exact formed_12 c a s m names ac cc an cn N w hg hs hm hn
  ·exact formed_13 c a s m names ac cc an cn N w hg hs hm hn
  ·exact formed_14 c a s m names ac cc an cn N w hg hs hm hn
  ·exact formed_15 c a s m names ac cc an cn N w hg hs hm hn
  ·exact formed_eight 16 YR c a s m names ac cc an cn N w hg hs hm hn
  ·exact formed_eight 17 YR c a s m names ac cc an cn N w hg hs hm hn
  ·exact jL 18 YR c a s m names ac cc an cn N w hg hs hm hn
  exact jL 19 YR c a s m names ac cc an cn N w hg hs hm hn
 exact formed_none c op a s m names ac cc an cn w h
theorem behind_any(i:Ins)(k n:Nat)(nm:bA)(pr lc:Int)(an:Option Addr)(ln cn b o cp:Nat)(w:World)(hk:k<n)(hn:n<=1000000000000)(h0:w.cell? ⟨b,o+k*5,none⟩=some (.int .i64 i.op))(h1:w.cell? ⟨b,o+k*5+1,none⟩=some (.int .i64 i.a))(h2:w.cell? ⟨b,o+k*5+2,none⟩=some (.string i.s))(h3:w.cell? ⟨b,o+k*5+3,none⟩=some (.string i.m))(h4:w.cell? ⟨b,o+k*5+4,none⟩=some (.slice an ln cn)):
  fY i.op i.a k n nm pr lc b o cp (lM i (k:Int)) w:=by
 unfold lM;split
 ·exact behind_18 i.op i.a k n nm i.s i.m pr lc an ln cn b o cp w hk hn (by assumption) h0 h1 h2 h3 h4
 split
 ·exact behind_10 i.op i.a k n nm i.s i.m pr lc an ln cn b o cp w hk hn (by assumption) h0 h1 h2 h3 h4
 split
 ·exact behind_11 i.op i.a k n nm i.s i.m pr lc an ln cn b o cp w hk hn (by assumption) h0 h1 h2 h3 h4
 exact behind_else i.op i.a k n nm i.s i.m pr lc an ln cn b o cp w hk hn ⟨by assumption,by assumption,by assumption⟩ h0 h1 h2 h3 h4
def arrOf(w:World)(g:Nat):List Int:=match w.heap[g]? with
 |some (.cells cs _ _)=>cs.toList.map intOf
 |_=>[]
theorem mN.arrOf{w:World}{g:Nat}{L:List Int}(h:mN w g L):arrOf w g=L:=by
 unfold Proofs.YtiionicikdnnpaaGreatDoor.arrOf;rw[show w.heap[g]? =_ from h];show((L.map (Value.int .i64)).toArray.toList.map intOf)=L;rw[List.map_map]
 conv=>rhs;rw[<-List.map_id L]
 apply List.map_congr_left;intro x _;rfl
def lenOf:Value->Nat
 | .slice _ n _=>n
 |_=>0
theorem mN.some_at{w:World}{g n:Nat}{L:List Int}(h:mN w g L){i:Nat}(hl:L.length=n)(hi:i<n):∃u,w.cell? ⟨g,i,none⟩=some u/\w.frozen? ⟨g,i,none⟩=false:=⟨_,h.get YM⟩
theorem ints_each{w:World}{a:Option Addr}{y z:Nat}{l:List Int}(h:nA w (.slice a y z) l):y=l.length/\∀i x,l[i]? =some x->∃b o,a=some ⟨b,o,none⟩/\w.cell? ⟨b,o+i,none⟩=some (.int .i64 x):=by
 rcases h.cases with⟨rfl,a',c,e⟩|⟨b,o,c,e,-,-,-,-,hc⟩
 ·cases e;exact⟨rfl,fun i x hx=>by simp at hx⟩
 cases e;exact⟨rfl,fun i x hx=>⟨b,o,rfl,hc i x hx⟩⟩
structure nW (n:Nat) (out todo:List Int):Prop where
 len:out.length=n
 hi:∀x∈out,x+jB out<=n
 at_:∀k∈todo,0<=k/\k<n
 few:jB out+todo.length<=n
theorem negs_rep(n:Nat):jB (List.replicate n (-1))=n:=by
 unfold jB;rw[List.countP_replicate];simp
theorem negs_first{n:Nat}(hn:0<n):jB ((List.replicate n (-1:Int)).set 0 0)+1=n:=by
 have h:=negs_set (out:=List.replicate n (-1:Int)) (k:=0) (h:=0) (by simpa using hn) (by
  rw[List.getD_eq_getElem?_getD,List.getElem?_replicate,if_pos hn];decide) YO
 rw[negs_rep] at h;exact h
theorem nW.first{n:Nat}(hn:0<n):nW n ((List.replicate n (-1:Int)).set 0 0) [0]:=by
 refine⟨YR,fun x hx=>?_,fun k hk=>?_,Nat.le_of_eq (negs_first hn)⟩
 ·have h1:=negs_first hn;rcases List.mem_or_eq_of_mem_set hx with h|rfl
  ·have:=(List.mem_replicate.1 h).2;subst this;omega
  omega
 simp at hk;subst hk;omega
theorem nW.get{n:Nat}{out todo:List Int}(h:nW n out todo){k:Nat}(hk:k<n):out.getD k 0+jB out<=n:=by
 refine h.hi _ ?_;rw[List.getD_eq_getElem?_getD,List.getElem?_eq_getElem (by rw[h.len];exact hk)];exact List.getElem_mem _
theorem nW.tail{n:Nat}{out todo:List Int}{k:Int}(h:nW n out (k::todo)):nW n out todo:=⟨h.len,h.hi,fun x hx=>h.at_ x (by simp[hx]),by have:=h.few;rw[List.length_cons] at this;omega⟩
theorem nW.new{n:Nat}{out todo:List Int}{k:Nat}{q:Int}{x:Int}(h:nW n out todo)(hk:k<n)(xR:out.getD k 0<0)(h0:0<=q)(hx:q<=x+1)(hxo:x+jB out<=n):nW n (out.set k q) (todo++[(k:Int)]):=by
 have h1:=negs_set (h:=q) (by rw[h.len];exact hk) xR h0;refine⟨by rw[List.length_set];exact h.len,fun y hy=>?_,fun y hy=>?_,by have:=h.few;rw[List.length_append,List.length_singleton];omega⟩
 ·rcases List.mem_or_eq_of_mem_set hy with h2|rfl
  ·have:=h.hi y h2;omega
  omega
 rcases List.mem_append.1 hy with h2|h2
 ·exact h.at_ y h2
 simp at h2;subst h2;omega
def pP(l:List Ins)(f:Nat):Option (List Int×List Int)->Bool
 |none=>false
 |some p=>(fE l f p.1 p.2).isSome
theorem heights_bad{l:List Ins}{f:Nat}{out todo:List Int}{k:Nat}(h:out.getD k 0<(lD (pE l k)).1\/((pE l k).op=18/\out.getD k 0≠1)):(fE l (f+1) out ((k:Int)::todo)).isSome=false:=by
 rw[fE,if_pos ZS];rfl
theorem heights_ok{l:List Ins}{f:Nat}{out todo:List Int}{k:Nat}(h:¬(out.getD k 0<(lD (pE l k)).1\/((pE l k).op=18/\out.getD k 0≠1))):
  (fE l (f+1) out ((k:Int)::todo)).isSome=pP l f (iV l.length (out.getD k 0-(lD (pE l k)).1+(lD (pE l k)).2) (lM (pE l k) k) out todo):=by
 rw[fE,if_neg ZS];simp only[Int.toNat_natCast];unfold pP;split<;>rename_i e<;>rw[e]<;>rfl
theorem insAt_of{l:List Ins}{k:Nat}{x:Ins}(h:l[k]? =some x):pE l k=x:=by
 unfold pE;rw[List.getD_eq_getElem?_getD,h];rfl
theorem rep_set(q n:Nat)(h:q<n):(List.replicate q (-1:Int)++List.replicate (n-q) 0).set q (-1)=List.replicate (q+1) (-1)++List.replicate (n-(q+1)) 0:=by
 rw[List.set_append,if_neg YR,List.length_replicate,Nat.sub_self,show n-q=(n-(q+1))+1 by omega,List.replicate_succ,List.set_cons_zero,List.replicate_succ',List.append_assoc];rfl
theorem rightC_main{c:Cod}(h1:aK c.name=true)(h2:c.params<=6)(h3:c.params<=c.locals)(h4:c.code.length≠0)(h5:∀(k:Nat)(x:Ins),c.code[k]? =some x->cQ c x=true):
  eI c=(fE c.code (c.code.length+1) ((List.replicate c.code.length (-1:Int)).set 0 0) [0]).isSome:=by
 unfold eI;rw[h1,decide_eq_true h2,decide_eq_true h3,decide_eq_true h4,show c.code.all (cQ c)=true from ?_]
 ·simp
 rw[List.all_eq_true];intro x hx;obtain⟨k,hk⟩:=List.getElem?_of_mem hx;exact h5 k x hk
theorem rightC_form{c:Cod}{k:Nat}{x:Ins}(hx:c.code[k]? =some x)(h:cQ c x=false):eI c=false:=by
 unfold eI;rw[show c.code.all (cQ c)=false from ?_]
 ·simp
 rw[<-Bool.not_eq_true,List.all_eq_true];intro hh;have:=hh x (List.mem_of_getElem? hx);rw[h] at this;cases this
theorem VK{p:Prop}(h:p:=by
 clear EY hy hym;by_cases IR:y=(c.code.length:Int)
 ·subst IR;have HF:Hid (eI c=false):=zh (by rw[JM.out,lookAt_full];rfl);have e0:((c.code.length:Int)==(c.code.length:Int))=true:=YR;clear JM;go_wp2_with fail;go_ret2;rw[HF.out];exact⟨⟨_,rfl⟩,IO.out _ E2.out⟩
 obtain⟨ky,rfl⟩:∃ky:Nat,y=(ky:Int):=⟨y.toNat,YM⟩;have SX:ky<c.code.length:=YM;have e0:((ky:Int)==(c.code.length:Int))=false:=by rw[beq_eq_false_iff_ne];exact IR
 obtain⟨z2,z3⟩:=BH.out.get (i:=ky) (by rw[B7.out.len];exact SX);have yS:=zh (fun h2=>JM.out.trans (congrArg (pP c.code _) (lookAt_new (n:=c.code.length) (h:=Hh-nd+lv) (k:=(ky:Int)) (r:=r.drop (j+1)) (out:=out') (todo:=todo') IR h2)));have yW:=zh (fun h2 h3=>JM.out.trans (congrArg (pP c.code _) (lookAt_bad (n:=c.code.length) (h:=Hh-nd+lv) (k:=(ky:Int)) (r:=r.drop (j+1)) (out:=out') (todo:=todo') IR h2 h3)));have MC:=zh (fun h2 h3=>JM.out.trans (congrArg (pP c.code _) (lookAt_same (n:=c.code.length) (h:=Hh-nd+lv) (k:=(ky:Int)) (r:=r.drop (j+1)) (out:=out') (todo:=todo') IR h2 h3)));rw[Int.toNat_natCast] at yS yW MC;have DE:=zh (fun(h2:out'.getD ky 0<0)=>B7.out.new (q:=Hh-nd+lv) (x:=Hh) SX h2 YM YM (by have h:=B7.out.get BT;rw[JQ.out] at h;exact h));have P6:=zh (fun(h2:out'.getD ky 0<0)=>negs_set (h:=Hh-nd+lv) (by rw[B7.out.len];exact SX) h2 YM)
 have P8:=zh (fun(h2:out'.getD ky 0<0)=>(show(out'.set ky (Hh-nd+lv)).getD kk 0=Hh by
  have rO:ky≠kk:=fun e=>by rw[e,JQ.out] at h2;omega
  rw[List.getD_eq_getElem?_getD,List.getElem?_set_ne rO,<-List.getD_eq_getElem?_getD]
  exact JQ.out))
 clear JM IR;generalize hD:out'.getD ky 0=D at *;have HD:=zh hD;clear hD;by_cases xR:D<0
 ·have HRn:=zh (yS.out xR);have NW:=zh (DE.out xR);have HNn:=zh (P6.out xR);have HKk:=zh (P8.out xR);have tO:Off (fun k=>k=w.heap.size+1) wy ((wy.setCell ⟨w.heap.size+1,ky,none⟩ (.int .i64 (Hh-nd+lv))).alloc (kD (ky:Int))):=(Off.setCell (S:=fun k=>k=w.heap.size+1) wy rfl).trans (Ba (aA _ _));have HO8:=zh tO;have SC:=zh ((BH.out.set ky (Hh-nd+lv)).later (aA _ (kD (ky:Int))));have UQ:=zh (E0.out.off tO (fun k hk e=>by have h9:=(E0.out.own k hk).1;have e2:k=w.heap.size+1:=e;omega))
  have wR:((wy.setCell ⟨w.heap.size+1,ky,none⟩ (.int .i64 (Hh-nd+lv))).alloc (kD (ky:Int))).heap[wy.heap.size]? =some (kD (ky:Int)):=by
   have h:=bY (wy.setCell ⟨w.heap.size+1,ky,none⟩ (.int .i64 (Hh-nd+lv))) (kD (ky:Int));simpa using h
  have HNb:=zh wR;have hlq:todo'.length<=1000000000000:=by have h1:=B7.out.few;omega
  clear wR tO yS yW MC DE P6 P8;go_wp2_with(at_builtin;refine pM rfl _ _ rfl UQ.out ZV ZV HNb.out hlq Y9 ?_);intro v9 w9 OK vY sW
  have UK:Hid (∀i y,r[i]? =some y->∃PH o2',some (⟨b2,o2,none⟩:Addr)=some ⟨PH,o2',none⟩/\w.heap.size+1<PH/\v9.ownBlock≠some PH/\w9.cell? ⟨PH,o2'+i,none⟩=some (.int .i64 y)):=zh (fun i y hy=>by
   obtain⟨b3,o3,e,h1,h2,h3⟩:=DC.out i y hy;cases e;have hlt3:=dS h3;refine⟨b2,o2,rfl,h1,fun e=>?_,vY.cell h2 (HO8.out.cell (fun e=>by have e2:b2=w.heap.size+1:=e;omega) h3)⟩;rcases sW b2 e with h4|h4
   ·exact h2 h4
   first|omega|(simp at h4;omega))
  have HA9:=zh (SC.out.off vY (fun e=>by have h9:=(UQ.out.own _ e).1;omega));have UV:=zh ((E2.out.trans (HO8.out.mono fun k hk=>by have e2:k=w.heap.size+1:=hk;show w.heap.size<k;omega)).trans (vY.mono fun k hk=>by have h9:=(UQ.out.own _ hk).1;show w.heap.size<k;omega));have HQ9:=zh OK;clear OK vY sW;go_wp2_with fail;go_roundw;case rel=>exact⟨j+1,_,_,YM,YZ,HA9,HQ9,NW,HKk,zh (by have h1:=HNn.out;have h2:=GU.out;rw[List.length_append,List.length_singleton];omega),UV,UK,HRn⟩
  case measure=>simp[intOf];omega
 by_cases JB:D=Hh-nd+lv
 ·have J7:=zh (MC.out xR (fun h=>h JB));have e2:(D==Hh-nd+lv)=true:=by rw[JB];simp
  clear yS yW MC DE P6 P8 JB;go_wp2_with fail;go_quiet(fail)
  go_wp2_with fail;go_roundw;case rel=>exact⟨j+1,_,_,YM,YZ,zh (BH.out.later (aS (Below.refl _ _) _)),zh (E0.out.later (aS (Below.refl _ _) _)),B7,JQ,GU,zh (E2.out.trans (Ba (aS (Below.refl _ _) _))),zh (fun i y hy=>by obtain⟨b3,o3,e,h1,h2,h3⟩:=DC.out i y hy;exact⟨b3,o3,e,h1,h2,h3⟩),J7⟩
  case measure=>simp[intOf];omega
 have HF:Hid (eI c=false):=zh (yW.out xR JB);have e2:(D==Hh-nd+lv)=false:=by rw[beq_eq_false_iff_ne];exact JB
 clear yS yW MC DE P6 P8 JB;go_wp2_with fail;go_quiet(fail)
 go_wp2_with fail;go_ret2;rw[HF.out]
 exact⟨⟨_,rfl⟩,aS (IO.out _ E2.out) _⟩):p:=h
theorem VU{p:Prop}(h:p:=by
 go_wp2_with(go_at_call 269;refine J9.out.mono ?_;rintro e w5 ⟨rfl,hb5⟩;have wL:=zh (JV.out.later hb5);have zY:=zh (BZ.out.later hb5);have uQ:=zh (GR.out.trans (Ba hb5));obtain⟨t0,t1,t2,t3⟩:=bx4 (uQ.out.heap (Nat.not_lt.2 (Nat.le_refl _)) tB.out);have z0:=(wL.out.get (i:=kk) aAv).1;rw[KA.out] at z0;obtain⟨c0,c1,c2,c3,c4⟩:=zH.out _ uQ.out)
 all_goals first|(go_ret2;rw[HF.out];exact⟨⟨_,rfl⟩,IO.out _ uQ.out⟩)|trace_state):p:=h
theorem V2{p:Prop}(h:p:=by
 have SS:lenOf u7=todo'.length:=by obtain⟨_,_,_,_,e,-⟩:=E0.out;rw[e];rfl
 clear BI EY;go_wp2_with fail;go_roundw;case rel=>exact⟨_,_,BH,E0,B7,E2,UI⟩
 case measure=>
  have h1:=BH.out.arrOf;have h2:=GU.out;have h3:=HMz.out;rw[h1,SS,h3];simp only[lenOf]
  omega):p:=h
theorem WI{p:Prop}(h:p:=by
 go_enter Tryz.func237,Tryz.ntmps237;go_wp2_with(go_at_call 17;refine HN.out.mono ?_;rintro e w5 ⟨rfl,rfl⟩);go_ret2
 exact⟨⟨_,rfl⟩,HB.out⟩):p:=h
theorem Que.pop0{B g off:Nat}{k:Int}{l:List Int}{w:World}(h:Que B (.slice (some ⟨g,off,none⟩) (l.length+1) (0+1)) (k::l) w):Que B (.slice (some ⟨g,off,none⟩) l.length 0) l w:=by
 obtain⟨g',off',cap',cur,hv,h1,h2,h3,h4,h5,h6⟩:=h;cases hv;have hl:l=[]:=List.eq_nil_of_length_eq_zero (by simp only[List.length_cons] at h3;omega);subst hl;exact⟨g,off,0,cur,rfl,h1,h2,Nat.le_refl _,Nat.zero_le _,YM,fun i x hx=>by simp at hx⟩
theorem heights_refuses(nm:bA)(pr lc n:Nat)(ac:Option Addr)(cc:Nat)(w:World)(hg:eJ w)(hs:nm.size<=8000)(h:aK nm=false\/6<pr\/lc<pr\/n=0):
  Calls Tryz.prog 237 #[oBx22 nm (pr:Int) (lc:Int) ac n cc] w fun e w'=>(∃v,e=.returned (.tuple #[v,.bool false]))/\Below w.heap.size w w':=by
 have HB:=zh (aA w (iK nm (pr:Int) (lc:Int) ac n cc));have HN:=zh (fB nm (w.alloc (iK nm (pr:Int) (lc:Int) ac n cc)) YM (hg.later HB.out));have p0:¬(pr:Int)<0:=YM;clear hg
 cases uY:aK nm with
 |false=>
  rw[uY] at HN;clear uY h;exact WI
 |true=>
  rw[uY] at HN;rw[uY] at h;clear uY;by_cases h6:6<pr
  ·have q6:(6:Int)<(pr:Int):=YM;clear h h6;exact WI
  have q6:¬(6:Int)<(pr:Int):=YM;by_cases hl:lc<pr
  ·have ql:(lc:Int)<(pr:Int):=YM;clear h h6 hl;exact WI
  have ql:¬(lc:Int)<(pr:Int):=YM
  have h0:n=0:=by
   rcases h with h|h|h|h
   ·cases h
   ·omega
   ·omega
   exact h
  subst h0;clear h h6 hl;exact WI
theorem heights_any(c:Cod)(N:Nat->Prop)(vc:Value)(w:World)(hg:eJ w)(hs:c.name.size<=8000)(hr:aO 5 pG N w vc c.code)(hlen:c.code.length<=100000000000):
  Calls Tryz.prog 237 #[.agg #[.string c.name,.int .i64 (c.params:Int),.int .i64 (c.locals:Int),vc]] w fun e w'=>(∃v,e=.returned (.tuple #[v,.bool (eI c)]))/\Below w.heap.size w w':=by
 by_cases uZ:aK c.name=false\/6<c.params\/c.locals<c.params\/c.code.length=0
 ·obtain⟨ac,cc,rfl,-⟩:=hr.at
  have hF:eI c=false:=by
   unfold eI;rcases uZ with h|h|h|h
   ·rw[h];rfl
   ·rw[show decide (c.params<=6)=false from decide_eq_false YM];simp
   ·rw[show decide (c.params<=c.locals)=false from decide_eq_false YM];simp
   rw[show decide (c.code.length≠0)=false from decide_eq_false YM];simp
  rw[hF];exact heights_refuses c.name c.params c.locals c.code.length ac cc w hg hs uZ
 simp only[not_or,Bool.not_eq_false] at uZ;obtain⟨uY,hp6,hlp,hn0⟩:=uZ;rcases hr.cases YO with⟨h0,-⟩|⟨b,o,cp,rfl,h0,h1,h2,hb,hN,hc⟩
 ·rw[h0] at hn0;exact absurd rfl hn0
 have HC:=zh hc;have tB:=zh (bY w (iK c.name (c.params:Int) (c.locals:Int) (some ⟨b,o,none⟩) c.code.length cp));have uJ:=zh (aA w (iK c.name (c.params:Int) (c.locals:Int) (some ⟨b,o,none⟩) c.code.length cp));have GV:=zh (fB c.name (w.alloc (iK c.name (c.params:Int) (c.locals:Int) (some ⟨b,o,none⟩) c.code.length cp)) YM (hg.later uJ.out));rw[uY] at GV;have h11:=hg.big;have HGl:=zh (fun W(ho:Off (fun k=>w.heap.size<k) (w.alloc (iK c.name (c.params:Int) (c.locals:Int) (some ⟨b,o,none⟩) c.code.length cp)) W)=>(hg.later uJ.out).off ho (fun k hk=>Nat.not_lt.2 YM));have HM:=zh (fun W(ho:Off (fun k=>w.heap.size<k) (w.alloc (iK c.name (c.params:Int) (c.locals:Int) (some ⟨b,o,none⟩) c.code.length cp)) W)=>(show bU N w N W from fun b' uR rU=>⟨uR,fun _ _ h=>ho.cell (Nat.not_lt.2 YM) (aD uJ.out h)⟩));have IO:=zh (fun W(ho:Off (fun k=>w.heap.size<k) (w.alloc (iK c.name (c.params:Int) (c.locals:Int) (some ⟨b,o,none⟩) c.code.length cp)) W)=>Off.below uJ.out ho (fun k hk=>Nat.le_of_lt hk) uJ.out.size);have HRM:=zh (fun(h5:∀(k:Nat)(x:Ins),c.code[k]? =some x->cQ c x=true)=>rightC_main uY YM YM hn0 h5);have p0:¬(c.params:Int)<0:=YM;have q6:¬(6:Int)<(c.params:Int):=YM;have ql:¬(c.locals:Int)<(c.params:Int):=YM;have qn:((c.code.length:Int)==0)=false:=YV;obtain⟨A0,IC⟩:∃A,A=((List.replicate c.code.length (0:Int)).map (Value.int .i64)).toArray:=⟨_,rfl⟩;have hmk:=make_ints c.code.length YM;rw[<-IC] at hmk;have uM:=zh IC;have xD:(w.alloc (iK c.name (c.params:Int) (c.locals:Int) (some ⟨b,o,none⟩) c.code.length cp)).heap.size=w.heap.size+1:=YR
 have HAr:Hid (mN ((w.alloc (iK c.name (c.params:Int) (c.locals:Int) (some ⟨b,o,none⟩) c.code.length cp)).alloc (.cells A0 3)) (w.heap.size+1) (List.replicate c.code.length 0)):=zh (by
  unfold mN;rw[<-uM.out]
  simpa using bY (w.alloc (iK c.name (c.params:Int) (c.locals:Int) (some ⟨b,o,none⟩) c.code.length cp)) (.cells A0 3))
 clear IC hc hg hr uY hp6 hn0;go_enter Tryz.func237,Tryz.ntmps237;go_wp2_with(go_at_call 17;refine GV.out.mono ?_;rintro e w5 ⟨rfl,rfl⟩);clear hmk p0 q6 ql qn;go_loopw [47] (fun iv wr=>∃q:Nat,q<=c.code.length/\iv=.int .i64 (q:Int)/\Hid (mN wr (w.heap.size+1) (List.replicate q (-1)++List.replicate (c.code.length-q) 0))/\Hid (Off (fun k=>w.heap.size<k) (w.alloc (iK c.name (c.params:Int) (c.locals:Int) (some ⟨b,o,none⟩) c.code.length cp)) wr)/\Hid (∀(k:Nat)(x:Ins),k<q->c.code[k]? =some x->cQ c x=true)) (fun iv _=>c.code.length-(intOf iv).toNat)
 case atStart=>exact⟨0,Nat.zero_le _,rfl,HAr,zh (Ba (aA _ _)),zh (fun k x hk=>YM)⟩
 case round=>
  obtain⟨q,hq,rfl,HA,HO,FJ⟩:=hrel;rename World=>wr
  obtain⟨t0,t1,t2,t3⟩:=bx4 (HO.out.heap (Nat.not_lt.2 (Nat.le_refl _)) tB.out);by_cases rU:q<c.code.length
  ·obtain⟨x,hx,-⟩:=getElem?_of_lt rU;obtain⟨cs,⟨vn,rfl,hzs,hzm,J1,-⟩,-,hj⟩:=HC.out q x hx;have HRN:=zh J1;obtain⟨an,cn,rfl,-⟩:=J1;have c0:wr.cell? ⟨b,o+q*5,none⟩=some (.int .i64 x.op):=HO.out.cell (Nat.not_lt.2 YM) (aD uJ.out (hj 0 _ rfl));have c1:=HO.out.cell (Nat.not_lt.2 YM) (aD uJ.out (hj 1 _ rfl));have c2:=HO.out.cell (Nat.not_lt.2 YM) (aD uJ.out (hj 2 _ rfl));have c3:=HO.out.cell (Nat.not_lt.2 YM) (aD uJ.out (hj 3 _ rfl));have c4:=HO.out.cell (Nat.not_lt.2 YM) (aD uJ.out (hj 4 _ rfl));have rS:Off (fun k=>w.heap.size<k) (w.alloc (iK c.name (c.params:Int) (c.locals:Int) (some ⟨b,o,none⟩) c.code.length cp)) (wr.alloc (eQ x.op x.a x.s x.m an x.names.length cn)):=HO.out.trans (Ba (aA _ _));have FF:=formed_any c x (some ⟨b,o,none⟩) cp an cn N (wr.alloc (eQ x.op x.a x.s x.m an x.names.length cn)) (HGl.out _ rS) hzs hzm (HRN.out.moves aV (HM.out _ rS) YO);unfold cT at FF;have HFm:=zh FF;have CN:=zh rS;obtain⟨s0,s1,s2,s3⟩:=bx4 (rS.heap (Nat.not_lt.2 (Nat.le_refl _)) tB.out);have HXq:=zh hx;have SK:=HA.out.lt;clear FF rS hj hx
   cases hf:cQ c x with
   |false=>
    have HF:Hid (eI c=false):=zh (rightC_form HXq.out hf);rw[hf] at HFm;clear hf;go_wp2_with(go_at_call 268;refine HFm.out.mono ?_;rintro e w5 ⟨rfl,hb5⟩;have uQ:=zh (CN.out.trans (Ba hb5)));go_ret2;rw[HF.out];exact⟨⟨_,rfl⟩,IO.out _ uQ.out⟩
   |true=>
    have HFn:Hid (∀(k:Nat)(y:Ins),k<q+1->c.code[k]? =some y->cQ c y=true):=zh (fun k y hk hy=>by
     rcases Nat.lt_or_ge k q with h|h
     ·exact FJ.out k y h hy
     have e:k=q:=YM;subst e
     rw[HXq.out] at hy;cases hy;exact hf)
    rw[hf] at HFm;clear hf;go_wp2_with(go_at_call 268;refine HFm.out.mono ?_;rintro e w5 ⟨rfl,hb5⟩;have uQ:=zh (CN.out.trans (Ba hb5));have wL:=zh (HA.out.later (aC (aA wr (eQ x.op x.a x.s x.m an x.names.length cn)) hb5));obtain⟨u5,hu5,hf5⟩:=wL.out.some_at Y9 rU);go_roundw;(case rel=>first|exact⟨q+1,YM,YZ,zh (by have h:=wL.out.set q (-1);rw[rep_set q _ rU] at h;exact h),zh (uQ.out.trans (Off.setCell (S:=fun k=>w.heap.size<k) _ (Nat.lt_succ_self _))),HFn⟩|exact⟨_,_,_,_,_,_,_,_,_,_,_,_,_,_,_,_,_,⟨q+1,YM,YZ,zh (by have h:=wL.out.set q (-1);rw[rep_set q _ rU] at h;exact h),zh (uQ.out.trans (Off.setCell (S:=fun k=>w.heap.size<k) _ (Nat.lt_succ_self _))),HFn⟩,rfl⟩);case measure=>simp[intOf];omega
  have wK:q=c.code.length:=YM;subst wK;have HFA:=zh (fun(k:Nat)(x:Ins)(hx:c.code[k]? =some x)=>FJ.out k x (Yb.1 hx).1 hx);have HRR:=zh (HRM.out HFA.out);have CC:Hid (mN wr (w.heap.size+1) (List.replicate c.code.length (-1))):=zh (by have h:=HA.out;rw[Nat.sub_self,List.replicate_zero,List.append_nil] at h;exact h);obtain⟨u5,hu5,hf5⟩:=CC.out.some_at (List.length_replicate ..) h0;have SK:=CC.out.lt;have CQ:=zh (CC.out.set 0 0);have CN:Hid (Off (fun k=>w.heap.size<k) (w.alloc (iK c.name (c.params:Int) (c.locals:Int) (some ⟨b,o,none⟩) c.code.length cp)) (wr.setCell ⟨w.heap.size+1,0,none⟩ (.int .i64 0))):=zh (HO.out.trans (Off.setCell (S:=fun k=>w.heap.size<k) _ (Nat.lt_succ_self _)));have FT:(wr.setCell ⟨w.heap.size+1,0,none⟩ (.int .i64 0)).heap.size=wr.heap.size:=YR;clear FJ HRM HA;go_wp2_with fail;clear t0 t1 t2 t3 hu5 hf5;go_loopw [7] (fun tv wz=>∃out todo:List Int,Hid (mN wz (w.heap.size+1) out)/\Hid (Que (w.heap.size+2) tv todo wz)/\Hid (nW c.code.length out todo)/\Hid (Off (fun k=>w.heap.size<k) (w.alloc (iK c.name (c.params:Int) (c.locals:Int) (some ⟨b,o,none⟩) c.code.length cp)) wz)/\Hid (eI c=(fE c.code (jB out+todo.length+1) out todo).isSome)) (fun tv wz=>jB (arrOf wz (w.heap.size+1))+lenOf tv)
  case atStart=>
   refine⟨_,[0],zh (CQ.out.later (aA _ _)),zh (Que.first (B:=w.heap.size+2) (b:=wr.heap.size) ?_ YM),zh (nW.first h0),zh (CN.out.trans (Ba (aA _ _))),zh ?_⟩
   ·rw[<-FT];exact bY _ _
   rw[HRR.out,List.length_singleton,show jB ((List.replicate c.code.length (-1:Int)).set 0 0)+1=c.code.length from negs_first h0]
  case round=>
   obtain⟨out,todo,JV,HQz,HI,GR,HRz⟩:=hrel;(rename World=>wz);clear CC CQ CN HO FT HRR SK;obtain⟨t0,t1,t2,t3⟩:=bx4 (GR.out.heap (Nat.not_lt.2 (Nat.le_refl _)) tB.out)
   cases todo with
   |nil=>
    obtain⟨gq,off,cap,cur,rfl,-⟩:=HQz.out;have HF:Hid (eI c=true):=zh (by rw[HRz.out];rfl);clear HRz;simp only[List.length_nil];go_wp2_with fail;go_ret2;rw[HF.out];exact⟨⟨_,rfl⟩,IO.out _ GR.out⟩
   |cons k todo=>
    obtain⟨hk0,Q8⟩:=HI.out.at_ k YR;obtain⟨kk,rfl⟩:∃kk:Nat,k=(kk:Int):=⟨k.toNat,YM⟩;have BT:kk<c.code.length:=YM;obtain⟨gq,off,cap,rfl,hcap1,hcap2,wI,AJ⟩:=HQz.out.pop;obtain⟨x,hx,-⟩:=getElem?_of_lt BT;obtain⟨cs,⟨vn,rfl,hzs,hzm,J1,TS,TR⟩,-,hj⟩:=HC.out kk x hx;obtain⟨an,cn,rfl,-⟩:=J1;have hl:=HI.out.len;have HMz:=zh JV.out.arrOf;have hfx:=HFA.out kk x hx;obtain⟨ho0,rX⟩:=formed_op hfx;obtain⟨hd0,OY,hv0,wP⟩:=needs_range hfx;have CO:=zh (behind_range hfx BT);have HIx:Hid (pE c.code kk=x):=zh (insAt_of hx);have hnd:=cneeds_any x an cn wz ho0 rX;unfold NeedsSays at hnd;have hih:=HI.out.get BT;have zH:=zh (fun W(ho:Off (fun k=>w.heap.size<k) (w.alloc (iK c.name (c.params:Int) (c.locals:Int) (some ⟨b,o,none⟩) c.code.length cp)) W)=>(show W.cell? ⟨b,o+kk*5,none⟩=some (.int .i64 x.op)/\W.cell? ⟨b,o+kk*5+1,none⟩=some (.int .i64 x.a)/\W.cell? ⟨b,o+kk*5+2,none⟩=some (.string x.s)/\W.cell? ⟨b,o+kk*5+3,none⟩=some (.string x.m)/\W.cell? ⟨b,o+kk*5+4,none⟩=some (.slice an x.names.length cn) from⟨ho.cell (Nat.not_lt.2 YM) (aD uJ.out (hj 0 _ rfl)),ho.cell (Nat.not_lt.2 YM) (aD uJ.out (hj 1 _ rfl)),ho.cell (Nat.not_lt.2 YM) (aD uJ.out (hj 2 _ rfl)),ho.cell (Nat.not_lt.2 YM) (aD uJ.out (hj 3 _ rfl)),ho.cell (Nat.not_lt.2 YM) (aD uJ.out (hj 4 _ rfl))⟩));obtain⟨c0,c1,c2,c3,c4⟩:=zH.out _ GR.out;have vJ:=zh (fun h=>HRz.out.trans (heights_bad (l:=c.code) (f:=jB out+((kk:Int)::todo).length) (out:=out) (todo:=todo) (k:=kk) h));have NV:=zh (fun h=>HRz.out.trans (heights_ok (l:=c.code) (f:=jB out+((kk:Int)::todo).length) (out:=out) (todo:=todo) (k:=kk) h));rw[HIx.out] at vJ NV;have HZ:Hid (out.getD kk 0=out.getD kk 0):=zh rfl;generalize hHh:out.getD kk 0=Hh at hih vJ NV HZ;have KA:=zh hHh;obtain⟨nd,lv,CF⟩:∃nd lv,lD x=(nd,lv):=⟨_,_,rfl⟩;rw[CF] at hnd hd0 OY hv0 wP vJ NV;dsimp only at hnd hd0 OY hv0 wP vJ NV;have J9:=zh hnd;have hne0:Hh<=100000000000:=YM;clear hj hx hfx hnd CF hHh HRz HZ hzs hzm hl;rcases Nat.eq_zero_or_pos cap with hcz|hcz
    ·subst hcz;have ht:todo=[]:=List.eq_nil_of_length_eq_zero YM;subst ht;have BZ:=zh (Que.pop0 HQz.out);clear AJ hcap1;by_cases vD:Hh<nd\/(x.op=18/\Hh≠1)
     ·have HF:Hid (eI c=false):=zh (vJ.out vD);clear vJ NV;by_cases g1:Hh<nd
      ·clear vD;exact VU
      have g2:x.op=18/\Hh≠1:=vD.resolve_left g1;(have PG:(x.op==18)=true:=by rw[g2.1];rfl);(have e1:(Hh==1)=false:=by rw[beq_eq_false_iff_ne];exact g2.2);(have e2:(Hh != 1)=true:=by rw[bne_iff_ne];exact g2.2);clear vD g2;exact VU
     have g1:¬Hh<nd:=fun h=>vD (.inl h);have DM:x.op=18->Hh=1:=fun h=>Decidable.not_not.1 fun h2=>vD (.inr ⟨h,h2⟩);have IM:=zh (NV.out vD);generalize hr:lM x (kk:Int)=r at IM CO;have UH:=zh hr;(have hrl:r.length<=2:=by rw[<-hr];unfold lM;(repeat' split)<;>simp);clear hr vD vJ NV;by_cases g2:x.op=18
     ·(have PG:(x.op==18)=true:=by rw[g2];rfl);(have e1:(Hh==1)=true:=by rw[DM g2];rfl);(have e2:(Hh != 1)=false:=by rw[DM g2];rfl);have UY:=zh g2;clear g2 DM;have MK:Hid (r=[]):=zh (by rw[<-UH.out];unfold lM;rw[if_pos UY.out]);go_wp2_with(go_at_call 269;refine J9.out.mono ?_;rintro e w5 ⟨rfl,hb5⟩;have wL:=zh (JV.out.later hb5);have zY:=zh (BZ.out.later hb5);have uQ:=zh (GR.out.trans (Ba hb5));obtain⟨t0,t1,t2,t3⟩:=bx4 (uQ.out.heap (Nat.not_lt.2 (Nat.le_refl _)) tB.out);have z0:=(wL.out.get (i:=kk) aAv).1;rw[KA.out] at z0;obtain⟨c0,c1,c2,c3,c4⟩:=zH.out _ uQ.out);have C3:=behind_any x kk c.code.length c.name (c.params:Int) (c.locals:Int) an x.names.length cn b o cp w5 BT YM c0 c1 c2 c3 c4;rw[UH.out] at C3;unfold fY at C3;have M5:=zh C3;clear C3;go_wp2_with(go_at_call 270;refine M5.out.mono ?_;rintro e w6 ⟨ra,rn,rc,rfl,KT,uB,sZ⟩;obtain⟨rfl,IU⟩:=ints_each KT);have DS:=zh (uQ.out.trans (Ba uB));have IQ:=zh (wL.out.later uB);have E1:=zh (zY.out.later uB);have hg5:=wL.out.lt
      have BE:Hid (∀i y,r[i]? =some y->∃b2 o2,ra=some ⟨b2,o2,none⟩/\w.heap.size+1<b2/\(Value.slice (some ⟨gq,off,none⟩) ([]:List Int).length 0).ownBlock≠some b2/\w6.cell? ⟨b2,o2+i,none⟩=some (.int .i64 y)):=zh (fun i y hy=>by
       obtain⟨b2,o2,e,hc⟩:=IU i y hy;subst e;have h5:=sZ b2 aAo
       exact⟨b2,o2,rfl,YM,fun e=>aAw,hc⟩)
      clear KT IU sZ uB t0 t1 t2 t3 c0 c1 c2 c3 c4 z0 M5 J9 wI;(go_loopw [7,106] (fun tv iv wy=>∃(j:Nat)(out' todo':List Int),j<=r.length/\iv=.int .i64 (j:Int)/\Hid (mN wy (w.heap.size+1) out')/\Hid (Que (w.heap.size+2) tv todo' wy)/\Hid (nW c.code.length out' todo')/\Hid (out'.getD kk 0=Hh)/\Hid (jB out'+todo'.length=jB out+([]:List Int).length)/\Hid (Off (fun k=>w.heap.size<k) (w.alloc (iK c.name (c.params:Int) (c.locals:Int) (some ⟨b,o,none⟩) c.code.length cp)) wy)/\Hid (∀i y,r[i]? =some y->∃b2 o2,ra=some ⟨b2,o2,none⟩/\w.heap.size+1<b2/\tv.ownBlock≠some b2/\wy.cell? ⟨b2,o2+i,none⟩=some (.int .i64 y))/\Hid (eI c=pP c.code (jB out+((kk:Int)::([]:List Int)).length) (iV c.code.length (Hh-nd+lv) (r.drop j) out' todo'))) (fun _ iv _=>r.length-(intOf iv).toNat));case atStart=>exact⟨0,out,([]:List Int),Nat.zero_le _,rfl,IQ,E1,zh HI.out.tail,KA,zh rfl,DS,BE,IM⟩
      case round=>
       obtain⟨j,out',todo',hj,rfl,BH,E0,B7,JQ,GU,E2,DC,EY⟩:=hrel;(rename World=>wy);clear IQ E1 DS BE IM wL zY uQ BZ JV GR;have hgy:=BH.out.lt;by_cases SU:j<r.length
       ·exact absurd SU (by rw[MK.out];exact Nat.not_lt_zero _)
       have BI:r.drop j=[]:=List.drop_eq_nil_of_le YM
       have UI:Hid (eI c=(fE c.code (jB out'+todo'.length+1) out' todo').isSome):=zh (by
        have h:=EY.out;rw[BI,lookAt_end] at h;have h2:=GU.out;rw[h,List.length_cons,show jB out+(([]:List Int).length+1)=jB out'+todo'.length+1 by omega]
        rfl)
       exact V2
     (have PG:(x.op==18)=false:=by rw[beq_eq_false_iff_ne];exact g2);clear g2 DM;go_wp2_with(go_at_call 269;refine J9.out.mono ?_;rintro e w5 ⟨rfl,hb5⟩;have wL:=zh (JV.out.later hb5);have zY:=zh (BZ.out.later hb5);have uQ:=zh (GR.out.trans (Ba hb5));obtain⟨t0,t1,t2,t3⟩:=bx4 (uQ.out.heap (Nat.not_lt.2 (Nat.le_refl _)) tB.out);have z0:=(wL.out.get (i:=kk) aAv).1;rw[KA.out] at z0;obtain⟨c0,c1,c2,c3,c4⟩:=zH.out _ uQ.out);have C3:=behind_any x kk c.code.length c.name (c.params:Int) (c.locals:Int) an x.names.length cn b o cp w5 BT YM c0 c1 c2 c3 c4;rw[UH.out] at C3;unfold fY at C3;have M5:=zh C3;clear C3;go_wp2_with(go_at_call 270;refine M5.out.mono ?_;rintro e w6 ⟨ra,rn,rc,rfl,KT,uB,sZ⟩;obtain⟨rfl,IU⟩:=ints_each KT);have DS:=zh (uQ.out.trans (Ba uB));have IQ:=zh (wL.out.later uB);have E1:=zh (zY.out.later uB);have hg5:=wL.out.lt
     have BE:Hid (∀i y,r[i]? =some y->∃b2 o2,ra=some ⟨b2,o2,none⟩/\w.heap.size+1<b2/\(Value.slice (some ⟨gq,off,none⟩) ([]:List Int).length 0).ownBlock≠some b2/\w6.cell? ⟨b2,o2+i,none⟩=some (.int .i64 y)):=zh (fun i y hy=>by
      obtain⟨b2,o2,e,hc⟩:=IU i y hy;subst e;have h5:=sZ b2 aAo
      exact⟨b2,o2,rfl,YM,fun e=>aAw,hc⟩)
     clear KT IU sZ uB t0 t1 t2 t3 c0 c1 c2 c3 c4 z0 M5 J9 wI;(go_loopw [7,106] (fun tv iv wy=>∃(j:Nat)(out' todo':List Int),j<=r.length/\iv=.int .i64 (j:Int)/\Hid (mN wy (w.heap.size+1) out')/\Hid (Que (w.heap.size+2) tv todo' wy)/\Hid (nW c.code.length out' todo')/\Hid (out'.getD kk 0=Hh)/\Hid (jB out'+todo'.length=jB out+([]:List Int).length)/\Hid (Off (fun k=>w.heap.size<k) (w.alloc (iK c.name (c.params:Int) (c.locals:Int) (some ⟨b,o,none⟩) c.code.length cp)) wy)/\Hid (∀i y,r[i]? =some y->∃b2 o2,ra=some ⟨b2,o2,none⟩/\w.heap.size+1<b2/\tv.ownBlock≠some b2/\wy.cell? ⟨b2,o2+i,none⟩=some (.int .i64 y))/\Hid (eI c=pP c.code (jB out+((kk:Int)::([]:List Int)).length) (iV c.code.length (Hh-nd+lv) (r.drop j) out' todo'))) (fun _ iv _=>r.length-(intOf iv).toNat));case atStart=>exact⟨0,out,([]:List Int),Nat.zero_le _,rfl,IQ,E1,zh HI.out.tail,KA,zh rfl,DS,BE,IM⟩
     case round=>
      obtain⟨j,out',todo',hj,rfl,BH,E0,B7,JQ,GU,E2,DC,EY⟩:=hrel;(rename World=>wy);clear IQ E1 DS BE IM wL zY uQ BZ JV GR;have hgy:=BH.out.lt;by_cases SU:j<r.length
      ·obtain⟨y,hy,hym⟩:=getElem?_of_lt SU;obtain⟨b2,o2,rfl,TN,hbo,H5⟩:=DC.out j y hy;obtain⟨H4,FD⟩:=CO.out y hym;obtain⟨t0,t1,t2,t3⟩:=bx4 (E2.out.heap (Nat.not_lt.2 (Nat.le_refl _)) tB.out);have z0:=(BH.out.get (i:=kk) (by rw[B7.out.len];exact BT)).1;rw[JQ.out] at z0
       have JM:Hid (eI c=pP c.code (jB out+((kk:Int)::([]:List Int)).length) (iV c.code.length (Hh-nd+lv) (y::r.drop (j+1)) out' todo')):=zh (by
        have h:=EY.out;obtain⟨NK,hj2⟩:=Yb.1 hy;rw[List.drop_eq_getElem_cons NK,hj2] at h
        exact h)
       exact VK
      have BI:r.drop j=[]:=List.drop_eq_nil_of_le YM
      have UI:Hid (eI c=(fE c.code (jB out'+todo'.length+1) out' todo').isSome):=zh (by
       have h:=EY.out;rw[BI,lookAt_end] at h;have h2:=GU.out;rw[h,List.length_cons,show jB out+(([]:List Int).length+1)=jB out'+todo'.length+1 by omega]
       rfl)
      exact V2
    have hcz2:¬cap=0:=YM;have BZ:=zh AJ;clear AJ hcz;by_cases vD:Hh<nd\/(x.op=18/\Hh≠1)
    ·have HF:Hid (eI c=false):=zh (vJ.out vD);clear vJ NV;by_cases g1:Hh<nd
     ·clear vD;exact VU
     have g2:x.op=18/\Hh≠1:=vD.resolve_left g1;(have PG:(x.op==18)=true:=by rw[g2.1];rfl);(have e1:(Hh==1)=false:=by rw[beq_eq_false_iff_ne];exact g2.2);(have e2:(Hh != 1)=true:=by rw[bne_iff_ne];exact g2.2);clear vD g2;exact VU
    have g1:¬Hh<nd:=fun h=>vD (.inl h);have DM:x.op=18->Hh=1:=fun h=>Decidable.not_not.1 fun h2=>vD (.inr ⟨h,h2⟩);have IM:=zh (NV.out vD);generalize hr:lM x (kk:Int)=r at IM CO;have UH:=zh hr;(have hrl:r.length<=2:=by rw[<-hr];unfold lM;(repeat' split)<;>simp);clear hr vD vJ NV;by_cases g2:x.op=18
    ·(have PG:(x.op==18)=true:=by rw[g2];rfl);(have e1:(Hh==1)=true:=by rw[DM g2];rfl);(have e2:(Hh != 1)=false:=by rw[DM g2];rfl);have UY:=zh g2;clear g2 DM;have MK:Hid (r=[]):=zh (by rw[<-UH.out];unfold lM;rw[if_pos UY.out]);go_wp2_with(go_at_call 269;refine J9.out.mono ?_;rintro e w5 ⟨rfl,hb5⟩;have wL:=zh (JV.out.later hb5);have zY:=zh (BZ.out.later hb5);have uQ:=zh (GR.out.trans (Ba hb5));obtain⟨t0,t1,t2,t3⟩:=bx4 (uQ.out.heap (Nat.not_lt.2 (Nat.le_refl _)) tB.out);have z0:=(wL.out.get (i:=kk) aAv).1;rw[KA.out] at z0;obtain⟨c0,c1,c2,c3,c4⟩:=zH.out _ uQ.out);have C3:=behind_any x kk c.code.length c.name (c.params:Int) (c.locals:Int) an x.names.length cn b o cp w5 BT YM c0 c1 c2 c3 c4;rw[UH.out] at C3;unfold fY at C3;have M5:=zh C3;clear C3;go_wp2_with(go_at_call 270;refine M5.out.mono ?_;rintro e w6 ⟨ra,rn,rc,rfl,KT,uB,sZ⟩;obtain⟨rfl,IU⟩:=ints_each KT);have DS:=zh (uQ.out.trans (Ba uB));have IQ:=zh (wL.out.later uB);have E1:=zh (zY.out.later uB);have hg5:=wL.out.lt
     have BE:Hid (∀i y,r[i]? =some y->∃b2 o2,ra=some ⟨b2,o2,none⟩/\w.heap.size+1<b2/\(Value.slice (some ⟨gq,off+1,none⟩) todo.length cap).ownBlock≠some b2/\w6.cell? ⟨b2,o2+i,none⟩=some (.int .i64 y)):=zh (fun i y hy=>by
      obtain⟨b2,o2,e,hc⟩:=IU i y hy;subst e;have h5:=sZ b2 aAo
      exact⟨b2,o2,rfl,YM,fun e=>aAw,hc⟩)
     clear KT IU sZ uB t0 t1 t2 t3 c0 c1 c2 c3 c4 z0 M5 J9 wI;(go_loopw [7,106] (fun tv iv wy=>∃(j:Nat)(out' todo':List Int),j<=r.length/\iv=.int .i64 (j:Int)/\Hid (mN wy (w.heap.size+1) out')/\Hid (Que (w.heap.size+2) tv todo' wy)/\Hid (nW c.code.length out' todo')/\Hid (out'.getD kk 0=Hh)/\Hid (jB out'+todo'.length=jB out+todo.length)/\Hid (Off (fun k=>w.heap.size<k) (w.alloc (iK c.name (c.params:Int) (c.locals:Int) (some ⟨b,o,none⟩) c.code.length cp)) wy)/\Hid (∀i y,r[i]? =some y->∃b2 o2,ra=some ⟨b2,o2,none⟩/\w.heap.size+1<b2/\tv.ownBlock≠some b2/\wy.cell? ⟨b2,o2+i,none⟩=some (.int .i64 y))/\Hid (eI c=pP c.code (jB out+((kk:Int)::todo).length) (iV c.code.length (Hh-nd+lv) (r.drop j) out' todo'))) (fun _ iv _=>r.length-(intOf iv).toNat));case atStart=>exact⟨0,out,todo,Nat.zero_le _,rfl,IQ,E1,zh HI.out.tail,KA,zh rfl,DS,BE,IM⟩
     case round=>
      obtain⟨j,out',todo',hj,rfl,BH,E0,B7,JQ,GU,E2,DC,EY⟩:=hrel;(rename World=>wy);clear IQ E1 DS BE IM wL zY uQ BZ JV GR;have hgy:=BH.out.lt;by_cases SU:j<r.length
      ·exact absurd SU (by rw[MK.out];exact Nat.not_lt_zero _)
      have BI:r.drop j=[]:=List.drop_eq_nil_of_le YM
      have UI:Hid (eI c=(fE c.code (jB out'+todo'.length+1) out' todo').isSome):=zh (by
       have h:=EY.out;rw[BI,lookAt_end] at h;have h2:=GU.out;rw[h,List.length_cons,show jB out+(todo.length+1)=jB out'+todo'.length+1 by omega]
       rfl)
      exact V2
    (have PG:(x.op==18)=false:=by rw[beq_eq_false_iff_ne];exact g2);clear g2 DM;go_wp2_with(go_at_call 269;refine J9.out.mono ?_;rintro e w5 ⟨rfl,hb5⟩;have wL:=zh (JV.out.later hb5);have zY:=zh (BZ.out.later hb5);have uQ:=zh (GR.out.trans (Ba hb5));obtain⟨t0,t1,t2,t3⟩:=bx4 (uQ.out.heap (Nat.not_lt.2 (Nat.le_refl _)) tB.out);have z0:=(wL.out.get (i:=kk) aAv).1;rw[KA.out] at z0;obtain⟨c0,c1,c2,c3,c4⟩:=zH.out _ uQ.out);have C3:=behind_any x kk c.code.length c.name (c.params:Int) (c.locals:Int) an x.names.length cn b o cp w5 BT YM c0 c1 c2 c3 c4;rw[UH.out] at C3;unfold fY at C3;have M5:=zh C3;clear C3;go_wp2_with(go_at_call 270;refine M5.out.mono ?_;rintro e w6 ⟨ra,rn,rc,rfl,KT,uB,sZ⟩;obtain⟨rfl,IU⟩:=ints_each KT);have DS:=zh (uQ.out.trans (Ba uB));have IQ:=zh (wL.out.later uB);have E1:=zh (zY.out.later uB);have hg5:=wL.out.lt
    have BE:Hid (∀i y,r[i]? =some y->∃b2 o2,ra=some ⟨b2,o2,none⟩/\w.heap.size+1<b2/\(Value.slice (some ⟨gq,off+1,none⟩) todo.length cap).ownBlock≠some b2/\w6.cell? ⟨b2,o2+i,none⟩=some (.int .i64 y)):=zh (fun i y hy=>by
     obtain⟨b2,o2,e,hc⟩:=IU i y hy;subst e;have h5:=sZ b2 aAo
     exact⟨b2,o2,rfl,YM,fun e=>aAw,hc⟩)
    clear KT IU sZ uB t0 t1 t2 t3 c0 c1 c2 c3 c4 z0 M5 J9 wI;(go_loopw [7,106] (fun tv iv wy=>∃(j:Nat)(out' todo':List Int),j<=r.length/\iv=.int .i64 (j:Int)/\Hid (mN wy (w.heap.size+1) out')/\Hid (Que (w.heap.size+2) tv todo' wy)/\Hid (nW c.code.length out' todo')/\Hid (out'.getD kk 0=Hh)/\Hid (jB out'+todo'.length=jB out+todo.length)/\Hid (Off (fun k=>w.heap.size<k) (w.alloc (iK c.name (c.params:Int) (c.locals:Int) (some ⟨b,o,none⟩) c.code.length cp)) wy)/\Hid (∀i y,r[i]? =some y->∃b2 o2,ra=some ⟨b2,o2,none⟩/\w.heap.size+1<b2/\tv.ownBlock≠some b2/\wy.cell? ⟨b2,o2+i,none⟩=some (.int .i64 y))/\Hid (eI c=pP c.code (jB out+((kk:Int)::todo).length) (iV c.code.length (Hh-nd+lv) (r.drop j) out' todo'))) (fun _ iv _=>r.length-(intOf iv).toNat));case atStart=>exact⟨0,out,todo,Nat.zero_le _,rfl,IQ,E1,zh HI.out.tail,KA,zh rfl,DS,BE,IM⟩
    case round=>
     obtain⟨j,out',todo',hj,rfl,BH,E0,B7,JQ,GU,E2,DC,EY⟩:=hrel;(rename World=>wy);clear IQ E1 DS BE IM wL zY uQ BZ JV GR;have hgy:=BH.out.lt;by_cases SU:j<r.length
     ·obtain⟨y,hy,hym⟩:=getElem?_of_lt SU;obtain⟨b2,o2,rfl,TN,hbo,H5⟩:=DC.out j y hy;obtain⟨H4,FD⟩:=CO.out y hym;obtain⟨t0,t1,t2,t3⟩:=bx4 (E2.out.heap (Nat.not_lt.2 (Nat.le_refl _)) tB.out);have z0:=(BH.out.get (i:=kk) (by rw[B7.out.len];exact BT)).1;rw[JQ.out] at z0
      have JM:Hid (eI c=pP c.code (jB out+((kk:Int)::todo).length) (iV c.code.length (Hh-nd+lv) (y::r.drop (j+1)) out' todo')):=zh (by
       have h:=EY.out;obtain⟨NK,hj2⟩:=Yb.1 hy;rw[List.drop_eq_getElem_cons NK,hj2] at h
       exact h)
      exact VK
     have BI:r.drop j=[]:=List.drop_eq_nil_of_le YM
     have UI:Hid (eI c=(fE c.code (jB out'+todo'.length+1) out' todo').isSome):=zh (by
      have h:=EY.out;rw[BI,lookAt_end] at h;have h2:=GU.out;rw[h,List.length_cons,show jB out+(todo.length+1)=jB out'+todo'.length+1 by omega]
      rfl)
     exact V2
end Go.Proofs.YtiionicikdnnpaaGreatDoor
