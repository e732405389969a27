/- Texts of this seat, joined. -/
import Derived.Test.YtmpopphjaggeoaaGreatDoorKT
import Derived.Great.BuildSlice
import Derived.Test.YtmpopphjaggeoaaGreatDoorZr
set_option maxHeartbeats 32000000
set_option maxRecDepth 100000
set_option linter.unusedVariables false
set_option linter.unusedSimpArgs false
set_option linter.constructorNameAsVariable false
namespace Go.Proofs.YtmpopphjaggeoaaGreatDoor
open Go.RowKit
section
variable {o:Oper} {a:Act} {w:World} {K:Act->World->Prop} {Q:Exit->Act->World->Prop}
end
theorem row_off(w:World)(g:Nat)(cs:Array Value):Off (fun b=>b=g) w (w.setRow g cs):=⟨rfl,rfl,rfl,C0,fun k _ hn=>setRow_other w g k cs hn⟩
end Go.Proofs.YtmpopphjaggeoaaGreatDoor
namespace Go.Proofs.YtmpopphjaggeoaaGreatDoor
open Go.RowKit
def opCells:List Value:=(opers.map fun o=>[Value.string o.1,.int .i64 o.2.1,.int .i64 (o.2.2:Int)]).flatten
structure ExL (p:Prs) (W:World) (b5:Nat) (x:Xp) (cs:List Value) (q:Nat) (wr:World):Prop where
 off:Off p.S W wr
 res:wr.heap[W.heap.size]? =some (.cells zeroX 32)
 loc:wr.heap[b5]? =some (.cells cs.toArray 32)
 enc:hP (fun b=>W.heap.size<b/\b≠b5) wr x cs
 b5:W.heap.size<b5
 pb:p.pb<W.heap.size
 at_:p.At wr q
section
variable {p:Prs} {W wr w':World} {b5 q j:Nat} {x y:Xp} {cs:List Value}
theorem ExL.next(h:ExL p W b5 x cs q wr)(ho:Off p.S wr w')(ha:p.At w' j):ExL p W b5 x cs j w':=by
 have pO:=h.pb;have hb:=h.b5;exact⟨h.off.trans ho,ho.heap (fun e=>by have e:W.heap.size=p.pb:=e;omega) h.res,ho.heap (fun e=>by have e:b5=p.pb:=e;omega) h.loc,fB.off h.enc ho (fun b jP hn=>by have jP:b=p.pb:=jP;have:=hn.1;omega),hb,pO,ha⟩
theorem ExL.below(h:ExL p W b5 x cs q wr)(hb:Below wr.heap.size wr w'):ExL p W b5 x cs q w':=h.next (Ba hb) (h.at_.later hb)
theorem ExL.put{i0:Nat}{z0 z1 z2 z3 z4 z5 y0 y1 y2 y3 y4 y5:Value}(h:ExL p W b5 x [z0,z1,z2,z3,z4,z5] q wr)(hW:p.At W i0)(hx:hP (fun b=>W.heap.size<b/\b≠b5) wr y [y0,y1,y2,y3,y4,y5]):
  ExL p W b5 y [y0,y1,y2,y3,y4,y5] q (wr.setRow b5 #[y0,y1,y2,y3,y4,y5]):=by
 have o:=row_off wr b5 #[y0,y1,y2,y3,y4,y5];have hb:=h.b5;exact⟨Off.fresh ((h.off.or _).trans (o.mono fun b jP=>.inr (by have jP:b=b5:=jP;omega))) (Nat.le_refl _),o.heap CR h.res,setRow_heap _ _ _ _ _ _ h.loc,fB.off hx o (fun b jP hn=>hn.2 jP),hb,h.pb,hW.above h.at_ (o.mono fun b jP=>by have jP:b=b5:=jP;omega)⟩
end
section
variable {l:List Tok} {rec:RecP} {form own F q:Nat} {e:Xp}
end
structure OpI (p:Prs) (W:World) (b5:Nat) (x:Xp) (cs:List Value) (q g:Nat) (seen:bA×Int×Nat) (wr:World):Prop where
 ex:ExL p W b5 x cs q wr
 xc:wr.heap[g]? =some (.cells #[.string seen.1,.int .i64 seen.2.1,.int .i64 (seen.2.2:Int)] 212)
 oc:wr.heap[g+1]? =some (.cells opCells.toArray 212)
 lt:b5<g
 en:hP (fun b=>W.heap.size<b/\b≠b5/\b<g) wr x cs
section
variable {p:Prs} {W wr w':World} {b5 q g:Nat} {x:Xp} {cs:List Value} {seen:bA×Int×Nat}
theorem OpI.below(h:OpI p W b5 x cs q g seen wr)(hb:Below wr.heap.size wr w'):OpI p W b5 x cs q g seen w':=⟨h.ex.below hb,aC hb h.xc,aC hb h.oc,h.lt,fB _ _ _ _ _ _ (aM.later hb) h.en⟩
theorem OpI.put{i0:Nat}{t:bA}{op:Int}{fm:Nat}(h:OpI p W b5 x cs q g seen wr)(hW:p.At W i0):OpI p W b5 x cs q g (t,op,fm) (((wr.setCell ⟨g,0,none⟩ (.string t)).setCell ⟨g,1,none⟩ (.int .i64 op)).setCell ⟨g,2,none⟩ (.int .i64 (fm:Int))):=by
 have o:Off (fun b=>b=g) wr (((wr.setCell ⟨g,0,none⟩ (.string t)).setCell ⟨g,1,none⟩ (.int .i64 op)).setCell ⟨g,2,none⟩ (.int .i64 (fm:Int))):=(((Off.setCell (b:=g) wr rfl).trans (Off.setCell _ rfl)).trans (Off.setCell _ rfl)).mono fun b hb=>Eq.symm hb;have hb:=h.ex.b5;have hl:=h.lt;have hc:=h.xc;have hen:=fB.off h.en o fun b jP hn=>by have jP:b=g:=jP;have:=hn.2.2;omega
 refine⟨⟨Off.fresh ((h.ex.off.or _).trans (o.mono fun b jP=>.inr (by have jP:b=g:=jP;omega))) (Nat.le_refl _),o.heap CR h.ex.res,o.heap CR h.ex.loc,?_,hb,h.ex.pb,hW.above h.ex.at_ (o.mono fun b jP=>by have jP:b=g:=jP;omega)⟩,?_,o.heap CR h.oc,hl,hen⟩
 ·exact fB.wide hen fun b kX _=>⟨kX.1,kX.2.1⟩
 rw[set_self (set_self (set_self hc _) _) _];rfl
end
theorem toList_nil'{t:bA}(h:t.toList=[]):t=⟨#[]⟩:=by
 have h1:=dR t ⟨#[]⟩;rw[h,toList_nil (s:=⟨#[]⟩) rfl] at h1;exact of_decide_eq_true h1.symm
end Go.Proofs.YtmpopphjaggeoaaGreatDoor
namespace Go.Proofs.YtmpopphjaggeoaaGreatDoor
open Go.RowKit
def encA{α:Type}(o:Option Nat)(enc:(Nat->Prop)->World->α->List Value->Prop)(N:Nat->Prop)(w:World)(x:α)(cs:List Value):Prop:=enc (fun b=>N b/\o≠some b) w x cs
theorem encA_ok{α:Type}(o:Option Nat){enc:(Nat->Prop)->World->α->List Value->Prop}(he:cF enc):cF (encA o enc):=fun _ _ _ _ _ _ hm h=>he _ _ _ _ _ _ (fun b hb hl=>⟨⟨(hm b hb.1 hl).1,hb.2⟩,(hm b hb.1 hl).2⟩) h
structure Pair {α β:Type} (k1:Nat) (T1:TypeId) (enc1:(Nat->Prop)->World->α->List Value->Prop) (k2:Nat) (T2:TypeId) (enc2:(Nat->Prop)->World->β->List Value->Prop) (B:Nat) (l1:List α) (c1:List (List Value)) (v1:Value) (l2:List β) (c2:List (List Value)) (v2:Value) (w:World):Prop where
 a:Gro k1 T1 (encA v2.ownBlock enc1) B l1 c1 v1 w
 b:Gro k2 T2 (encA v1.ownBlock enc2) B l2 c2 v2 w
 d:∀b,v1.ownBlock=some b->v2.ownBlock≠some b
section
variable {α β:Type} {k1 k2:Nat} {T1 T2:TypeId} {enc1:(Nat->Prop)->World->α->List Value->Prop} {enc2:(Nat->Prop)->World->β->List Value->Prop} {B:Nat} {l1:List α} {l2:List β} {c1 c2:List (List Value)} {v1 v2:Value} {w w' w9 qD:World}
theorem Pair.stays(oO:cF enc1)(sE:cF enc2)(h:Pair k1 T1 enc1 k2 T2 enc2 B l1 c1 v1 l2 c2 v2 w)(hs:cJ B w w'):Pair k1 T1 enc1 k2 T2 enc2 B l1 c1 v1 l2 c2 v2 w':=⟨h.a.stays (encA_ok _ oO) hs,h.b.stays (encA_ok _ sE) hs,h.d⟩
theorem Pair.add{x:α}{news:List Value}{g cap n1:Nat}(oO:cF enc1)(sE:cF enc2)(h:Pair k1 T1 enc1 k2 T2 enc2 B l1 c1 v1 l2 c2 v2 w9)(hx:encA v2.ownBlock enc1 (offN B v1) w9 x news)(hk:news.length=k1)
  (jY:qD.ownsRow B T1 k1 (.slice (some ⟨g,0,none⟩) n1 cap) n1 (c1.flatten++news)) (hn:n1=l1.length+1) (iP:w9.grownBy qD v1.ownBlock) (mM:v1.ownBlock=some g\/g=w9.heap.size):
  Pair k1 T1 enc1 k2 T2 enc2 B (l1++[x]) (c1++[news]) (.slice (some ⟨g,0,none⟩) n1 cap) l2 c2 v2 qD:=by
 subst hn;have sB:=h.b.lt
 have hg:∀b,b<w9.heap.size->v1.ownBlock≠some b->b≠g:=fun b hb hn e=>by
  subst e;rcases mM with h1|h1
  ·exact hn h1
  omega
 refine⟨h.a.added (encA_ok _ oO) hx hk jY iP mM,?_,fun b hb e=>?_⟩
 ·refine h.b.change iP.size (fun b hb=>iP.block b (sB b hb).2 fun e=>h.d b e.symm hb) (fun y c hy=>?_);refine sE _ _ _ _ _ _ (fun b hb hl=>⟨⟨hb.1,fun e=>?_⟩,fun o u hu=>iP.cell hu (fun e=>hb.2 e.symm)⟩) hy;have e:g=b:=by simpa[Value.ownBlock] using e
  exact hg b hl hb.2 e.symm
 have jP:g=b:=by simpa[Value.ownBlock] using hb
 subst jP;rcases mM with h1|h1
 ·exact h.d g h1 e
 have:=(sB g e).2;omega
theorem Pair.row(oO:cF enc1)(h:Pair k1 T1 enc1 k2 T2 enc2 B l1 c1 v1 l2 c2 v2 w):aK k1 enc1 (cP B) w v1 l1:=by
 obtain⟨a,c,h1,h2,h3,h4⟩:=h.a.row (encA_ok _ oO);refine⟨a,c,h1,h2,h3,fun kQ=>?_⟩;obtain⟨b,o,e1,e2,e3⟩:=h4 kQ;refine⟨b,o,e1,e2,fun i x hx=>?_⟩;obtain⟨cs,f1,f2,f3⟩:=e3 i x hx;exact⟨cs,oO.wide f1 (fun b hb _=>hb.1),f2,f3⟩
end
section
variable {T:TypeId} {zero cells:Array Value} {p:Prs} {O S:Nat->Prop} {W w8 qD:World} {b5 B q i0:Nat} {E:World->Prop}
theorem Mk.above(h:Mk T zero p O S W b5 cells E q w8)(hW:p.At W i0)(hb:b5<B)(ho:Off (fun b=>B<=b) w8 qD)(hE:Stbl (fun b=>B<=b) E):Mk T zero p O S W b5 cells E q qD:=by
 have h1:=h.hb5;exact⟨Off.fresh ((h.off.or _).trans (ho.mono fun b hb=>.inr (by have hb:B<=b:=hb;omega))) (Nat.le_refl _),ho.heap CR h.res,ho.heap CR h.loc,hW.above h.at_ (ho.mono fun b hb=>by have hb:B<=b:=hb;omega),hE _ _ ho h.enc,h.st,h1,h.sO,h.s5,h.sR,h.sP⟩
theorem Mk.drew(h:Mk T zero p O S W b5 cells E q w8):Mk T zero p O S W b5 cells E q w8.drew:=h.below (aL _)
theorem Mk.wide{S':Nat->Prop}(h:Mk T zero p O S W b5 cells (fun _=>True) q w8)(h1:∀b,S' b->O b\/W.heap.size<b)(h2:¬S' b5)(h3:¬S' W.heap.size)(h4:S' p.pb):Mk T zero p O S' W b5 cells (fun _=>True) q w8:=
 ⟨h.off,h.res,h.loc,h.at_,trivial,Stbl.true,h.hb5,h1,h2,h3,h4⟩
end
section
variable {l:List Tok} {F q:Nat}
end
structure Maps3 (w:World) (ka na:Nat) (fa:bA->Bool) (kb nb:Nat) (fb:bA->Bool) (kc nc:Nat) (fc:bA->Bool):Prop where
 a:cW kStr vBool w ka na (setOf fa)
 b:cW kStr vBool w kb nb (setOf fb)
 c:cW kStr vBool w kc nc (setOf fc)
section
variable {w w':World} {ka na kb nb kc nc na' nb' nc':Nat} {fa fb fc fa' fb' fc':bA->Bool} {S:Nat->Prop}
theorem Maps3.off(h:Maps3 w ka na fa kb nb fb kc nc fc)(ho:Off S w w')(hS:¬S ka/\¬S kb/\¬S kc):Maps3 w' ka na fa kb nb fb kc nc fc:=
 ⟨h.a.of_block (ho.block _ h.a.lt hS.1),h.b.of_block (ho.block _ h.b.lt hS.2.1),h.c.of_block (ho.block _ h.c.lt hS.2.2)⟩
theorem Maps3.later(h:Maps3 w ka na fa kb nb fb kc nc fc)(hb:Below w.heap.size w w'):Maps3 w' ka na fa kb nb fb kc nc fc:=⟨h.a.later hb,h.b.later hb,h.c.later hb⟩
end
section
variable {l:List Tok}
end
end Go.Proofs.YtmpopphjaggeoaaGreatDoor
namespace Go.Proofs.YtmpopphjaggeoaaGreatDoor
open Go.RowKit
mutual
def wX(N:Nat->Prop)(w:World):Xp->List Value->Prop
 | .mk op n s m names args,cs=>∃vn va,cs=[.int .i64 op,.int .i64 n,.string s,.string m,vn,va]/\s.size<=140737488355328/\m.size<=140737488355328/\aK 1 cD N w vn names/\
   ∃a c,va=.slice a args.length c/\args.length<=c/\c<=9223372036854775807/\(args≠[]->∃b o,a=some ⟨b,o,none⟩/\N b/\wXs N w b o args)
def wXs(N:Nat->Prop)(w:World)(b:Nat):Nat->List Xp->Prop
 |_,[]=>True
 |o,x::r=>(∃cs,wX N w x cs/\cs.length=6/\∀j u,cs[j]? =some u->w.cell? ⟨b,o+j,none⟩=some u)/\wXs N w b (o+6) r
end
section
variable {N N':Nat->Prop} {w w':World}
theorem wXs_iff(b:Nat):∀(l:List Xp)(o:Nat),wXs N w b o l↔∀i x,l[i]? =some x->∃cs,wX N w x cs/\cs.length=6/\∀j u,cs[j]? =some u->w.cell? ⟨b,o+i*6+j,none⟩=some u
 |[],o=>by simp[wXs]
 |x::r,o=>by
  unfold wXs;rw[wXs_iff b r (o+6)];exact BA
theorem wX_iff(op n:Int)(s m:bA)(names:List bA)(args:List Xp)(cs:List Value):wX N w (.mk op n s m names args) cs↔
  ∃vn va,cs=[.int .i64 op,.int .i64 n,.string s,.string m,vn,va]/\s.size<=140737488355328/\m.size<=140737488355328/\aK 1 cD N w vn names/\aK 6 wX N w va args:=by
 unfold wX aK;simp only[wXs_iff]
mutual
theorem wX_moves(hm:aM N w N' w'):∀(x:Xp)(cs:List Value),wX N w x cs->wX N' w' x cs
 | .mk op n s m names args,cs,h=>by
  unfold wX at h ⊢;obtain⟨vn,va,hc,h1,h2,h3,a,c,h4,h5,h6,h7⟩:=h;refine⟨vn,va,hc,h1,h2,h3.moves aT hm CX,a,c,h4,h5,h6,fun kQ=>?_⟩;obtain⟨b,o,ha,hb,hx⟩:=h7 kQ
  have jM:b<w.heap.size:=by
   cases args with
   |nil=>exact absurd rfl kQ
   |cons x r=>
    unfold wXs at hx;obtain⟨⟨cs,-,hl,hj⟩,-⟩:=hx;exact BH
  exact⟨b,o,ha,(hm b hb jM).1,wXs_moves hm b hb jM args o hx⟩
theorem wXs_moves(hm:aM N w N' w')(b:Nat)(hb:N b)(jM:b<w.heap.size):∀(l:List Xp)(o:Nat),wXs N w b o l->wXs N' w' b o l
 |[],_,_=>by unfold wXs;trivial
 |x::r,o,h=>by
  unfold wXs at h ⊢;obtain⟨⟨cs,h1,h2,h3⟩,h4⟩:=h;exact⟨⟨cs,wX_moves hm x cs h1,h2,fun j u hu=>(hm b hb jM).2 _ _ (h3 j u hu)⟩,wXs_moves hm b hb jM r (o+6) h4⟩
end
theorem gW:cF wX:=fun _ _ _ _ x cs hm h=>wX_moves hm x cs h
end
theorem bI{N:Nat->Prop}{w:World}{x:Xp}{cs:List Value}(h:wX N w x cs):∃(op n:Int)(s m:bA)(a1:Option Addr)(n1 c1:Nat)(a2:Option Addr)(n2 c2:Nat),cs=[.int .i64 op,.int .i64 n,.string s,.string m,.slice a1 n1 c1,.slice a2 n2 c2]:=by
 cases x with
 |mk op n s m names args=>
  rw[wX_iff] at h;exact B5
theorem aK.same{α:Type}{k:Nat}{e1 e2:(Nat->Prop)->World->α->List Value->Prop}{N:Nat->Prop}{w:World}{v:Value}{l:List α}(h:aK k e1 N w v l)(he:∀x∈l,∀cs,e1 N w x cs->e2 N w x cs):aK k e2 N w v l:=by
 obtain⟨a,c,hv,h1,h2,h3⟩:=h;refine⟨a,c,hv,h1,h2,fun kQ=>?_⟩;obtain⟨b,o,ha,hn,hc⟩:=h3 kQ;refine⟨b,o,ha,hn,fun i x hx=>?_⟩;obtain⟨cs,e,hl,hj⟩:=hc i x hx;exact⟨cs,he x (List.mem_of_getElem? hx) cs e,hl,hj⟩
end Go.Proofs.YtmpopphjaggeoaaGreatDoor
namespace Go.Proofs.YtmpopphjaggeoaaGreatDoor
open Go.RowKit
theorem wX_slices{N:Nat->Prop}{w:World}{x:Xp}{op n:Int}{s m:bA}{vn va:Value}(h:wX N w x [.int .i64 op,.int .i64 n,.string s,.string m,vn,va]):(∃a n c,vn=.slice a n c)/\∃a n c,va=.slice a n c:=by
 cases x with
 |mk op' n' s' m' names args=>
  rw[wX_iff] at h;obtain⟨v1,v2,e,-,-,⟨a1,c1,h1,-⟩,⟨a2,c2,h2,-⟩⟩:=h;cases e;exact⟨⟨_,_,_,h1⟩,_,_,_,h2⟩
theorem decide_cons{α:Type}{a b:List α}{q:Nat}{x y:α}(hx:a[q]? =some x)(hy:b[q]? =some y)(ht:a.take q=b.take q)(he:x=y):a.take (q+1)=b.take (q+1):=by
 rw[List.take_add_one,List.take_add_one,ht,hx,hy,he]
theorem take_ne{α:Type}{a b:List α}{q:Nat}{x y:α}(hx:a[q]? =some x)(hy:b[q]? =some y)(he:x≠y):a≠b:=by
 intro e;rw[e,hy] at hx;exact he (Option.some.inj hx).symm
theorem take_full{α:Type}{a b:List α}(hl:a.length=b.length)(ht:a.take a.length=b.take a.length):a=b:=by
 rw[List.take_length,hl,List.take_length] at ht;exact ht
noncomputable def eqL {α:Type} (a b:List α):Bool:=@decide (a=b) (Classical.propDecidable _)
theorem dW{α:Type}{a b:List α}(h:a=b):eqL a b=true:=@decide_eq_true _ (Classical.propDecidable _) h
theorem cH{α:Type}{a b:List α}(h:¬a=b):eqL a b=false:=@decide_eq_false _ (Classical.propDecidable _) h
theorem cO{a b:bA}(h:a≠b):(a.toList==b.toList)=false:=by rw[dR];exact decide_eq_false h
theorem depth_pos(x:Xp):0<gU x:=by cases x;rw[gU];omega
structure OpA (wb:Nat) (v:Value) (x:Xp) (b o:Nat) (op n:Int) (s m:bA) (a1:Option Addr) (n1 c1:Nat) (a2:Option Addr) (n2 c2:Nat) (w:World):Prop where
 enc:hP (offC wb v) w x [.int .i64 op,.int .i64 n,.string s,.string m,.slice a1 n1 c1,.slice a2 n2 c2]
 off:offC wb v b
 p:w.cell? ⟨b,o,none⟩=some (.int .i64 op)/\w.cell? ⟨b,o+1,none⟩=some (.int .i64 n)/\w.cell? ⟨b,o+2,none⟩=some (.string s)/\w.cell? ⟨b,o+3,none⟩=some (.string m)/\w.cell? ⟨b,o+4,none⟩=some (.slice a1 n1 c1)/\w.cell? ⟨b,o+5,none⟩=some (.slice a2 n2 c2)
theorem OpA.ext{wb:Nat}{v v':Value}{x:Xp}{b o:Nat}{op n:Int}{s m:bA}{a1:Option Addr}{n1 c1:Nat}{a2:Option Addr}{n2 c2:Nat}{w w':World}(h:OpA wb v x b o op n s m a1 n1 c1 a2 n2 c2 w)(hx:Ext wb v w v' w'):OpA wb v' x b o op n s m a1 n1 c1 a2 n2 c2 w':=by
 obtain⟨h1,h2,p0,p1,p2,p3,p4,p5⟩:=h;have hn:¬inC wb v b:=fun e=>e.elim h2.1 h2.2;exact⟨encX_ext h1 hx,(hx.moves b h2 (cV p0)).1,hx.off.cell hn p0,hx.off.cell hn p1,hx.off.cell hn p2,hx.off.cell hn p3,hx.off.cell hn p4,hx.off.cell hn p5⟩
theorem encT_form{N:Nat->Prop}{w:World}{t:Ty}{cs:List Value}(h:encT N w t cs):∃(k:Int)(a:Option Addr)(n c:Nat),cs=[.int .i64 k,.slice a n c]:=by
 cases t with
 |mk k fs=>
  rw[encT_iff] at h;obtain⟨vf,rfl,hr⟩:=h;obtain⟨a,c,rfl,-⟩:=hr.at;exact⟨k,a,_,c,rfl⟩
theorem eqL_decide{α:Type}[DecidableEq α](a b:List α):eqL a b=decide (a=b):=by
 by_cases h:a=b
 ·rw[dW h,decide_eq_true h]
 rw[cH h,decide_eq_false h]
theorem aK.pos{α:Type}{k:Nat}{enc:(Nat->Prop)->World->α->List Value->Prop}{N:Nat->Prop}{w:World}{v:Value}{l:List α}(hk:0<k)(h:aK k enc N w v l)(hp:0<l.length):∃b o c,v=.slice (some ⟨b,o,none⟩) l.length c/\l.length<=c/\c<=9223372036854775807/\b<w.heap.size/\
  ∀i x,l[i]? =some x->∃cs,enc N w x cs/\cs.length=k/\∀j u,cs[j]? =some u->w.cell? ⟨b,o+i*k+j,none⟩=some u:=by
 rcases h.cases hk with⟨rfl,-⟩|⟨b,o,c,h1,h2,h3,h4,h5,h6,h7⟩
 ·simp at hp
 exact⟨b,o,c,h1,h3,h4,h5,h7⟩
def RightXpAll:Prop:=∀(d:Nat)(x:Xp)(N:Nat->Prop)(op n:Int)(s m:bA)(vn va:Value)(w:World),d<=100->bC w->wX N w x [.int .i64 op,.int .i64 n,.string s,.string m,vn,va]->
  Calls Tryz.prog 141 #[.agg #[.int .i64 op,.int .i64 n,.string s,.string m,vn,va],.int .i64 (d:Int)] w fun e w'=>e=.returned (.bool (aX d x))/\Below w.heap.size w w'
theorem RightExp_any(hX:RightXpAll)(x:Xp)(N:Nat->Prop)(op n:Int)(s m:bA)(vn va:Value)(w:World)(hg:bC w)(he:wX N w x [.int .i64 op,.int .i64 n,.string s,.string m,vn,va]):
  Calls Tryz.prog 86 #[.agg #[.int .i64 op,.int .i64 n,.string s,.string m,vn,va]] w fun e w'=>e=.returned (.bool (aX 12 x))/\Below w.heap.size w w':=by
 have hb:=aB w (.cells #[.int .i64 op,.int .i64 n,.string s,.string m,vn,va] 32);have HT:=zh (hX 12 x N op n s m vn va _ CX (hg.later hb) (gW _ _ _ _ _ _ (aM.later hb) he));obtain⟨⟨a1,n1,c1,rfl⟩,a2,n2,c2,rfl⟩:=wX_slices he;generalize aX 12 x=r at *;clear hX hg he;go_enter Tryz.func86,Tryz.ntmps86;go_wp2_with(go_at_call 141;refine HT.out.mono ?_;rintro e w2 ⟨rfl,jP⟩);go_ret;exact⟨rfl,aA hb jP⟩
theorem all_at{α:Type}{p:α->Bool}{l:List α}{q:Nat}{x:α}(hx:l[q]? =some x):(l.drop q).all p=(p x&&(l.drop (q+1)).all p):=by
 obtain⟨hk,he⟩:=Yb.1 hx;rw[List.drop_eq_getElem_cons hk,he,List.all_cons]
theorem eS(s:bA)(w:World)(hs:s.size<=140737488355328)(hg:bC w):
  Calls Tryz.prog 85 #[.string s] w fun e w'=>e=.returned (.bool (bE s))/\w=w':=by
 obtain⟨m,hm⟩:=hg.maxLen;have HW:=zh (word_any s w CR);have HC:=zh (Tryz.strings_Contains iC ((bs [32]++s)++bs [32]) m w (by rw[reserved_size];decide) hm);have HN:Hid (bE s=(eK s&& !Lib.contains iC.data.toList ((bs [32]++s)++bs [32]).data.toList)):=zh rfl;clear hm hg;generalize Lib.contains iC.data.toList ((bs [32]++s)++bs [32]).data.toList=q at HC HN
 cases hw:eK s with
 |false=>
  rw[hw] at HW HN;clear hw;go_enter Tryz.func85,Tryz.ntmps85;go_wp2_with(go_at_call 139;refine HW.out.mono ?_;rintro e w1 ⟨rfl,rfl⟩);go_ret;exact⟨aF (by rw[HN.out];rfl),rfl⟩
 |true=>
  rw[hw] at HW HN;clear hw;go_enter Tryz.func85,Tryz.ntmps85;go_wp2_with(first|(go_at_call 139;refine HW.out.mono ?_;rintro e w1 ⟨rfl,rfl⟩)|(go_at_call 140;refine HC.out.mono ?_;rintro e w2 ⟨rfl,rfl⟩));go_ret;exact⟨aF (by rw[HN.out];rfl),rfl⟩
theorem BC{p:Prop}(h:p:=by
 go_enter Tryz.func192,Tryz.ntmps192;go_wp2_with fail;go_ret
 exact⟨aF (by rw[HR.out];decide),hb⟩):p:=h
theorem BM{p:Prop}(h:p:=by
 go_wp2_with fail;go_ret
 exact⟨aF (by rw[HR.out];rfl),hb⟩):p:=h
def cL(x:Xp)(op n:Int)(s m:bA)(vn va:Value)(w:World):Prop:=Calls Tryz.prog 192 #[.agg #[.int .i64 op,.int .i64 n,.string s,.string m,vn,va]] w fun e w'=>e=.returned (.bool (fP x))/\Below w.heap.size w w'
theorem leaf_0(n:Int)(s m:bA)(names:List bA)(args:List Xp)(a1:Option Addr)(n1 c1:Nat)(a2:Option Addr)(c2:Nat)(w:World)(hg:bC w)(hs:s.size<=140737488355328)(hm:m.size<=140737488355328):cL (.mk 0 n s m names args) 0 n s m (.slice a1 n1 c1) (.slice a2 args.length c2) w:=by
 unfold cL;have hb:=aB w (.cells #[.int .i64 0,.int .i64 n,.string s,.string m,.slice a1 n1 c1,.slice a2 args.length c2] 32);have HR:Hid (fP (.mk 0 n s m names args)=(decide (0<=n)&&decide (n<=1099511627776))):=zh rfl;clear hg;by_cases h1:0<=n
 ·by_cases h2:n<=1099511627776
  ·rw[decide_eq_true h1,decide_eq_true h2] at HR;go_enter Tryz.func192,Tryz.ntmps192;exact BM
  rw[decide_eq_true h1,decide_eq_false h2] at HR;go_enter Tryz.func192,Tryz.ntmps192;exact BM
 rw[decide_eq_false h1] at HR;go_enter Tryz.func192,Tryz.ntmps192;exact BM
theorem leaf_1(n:Int)(s m:bA)(names:List bA)(args:List Xp)(a1:Option Addr)(n1 c1:Nat)(a2:Option Addr)(c2:Nat)(w:World)(hg:bC w)(hs:s.size<=140737488355328)(hm:m.size<=140737488355328):cL (.mk 1 n s m names args) 1 n s m (.slice a1 n1 c1) (.slice a2 args.length c2) w:=by
 unfold cL;have hb:=aB w (.cells #[.int .i64 1,.int .i64 n,.string s,.string m,.slice a1 n1 c1,.slice a2 args.length c2] 32);have HR:Hid (fP (.mk 1 n s m names args)=(decide (n=0)||decide (n=1))):=zh rfl;clear hg;by_cases h0:n=0
 ·subst h0;exact BC
 have g0:(n==0)=false:=by rw[beq_eq_false_iff_ne];exact h0
 by_cases h1:n=1
 ·subst h1;exact BC
 have g1:(n==1)=false:=by rw[beq_eq_false_iff_ne];exact h1
 go_enter Tryz.func192,Tryz.ntmps192;go_wp2_with fail;go_ret;exact⟨aF (by rw[HR.out];simp[h0,h1]),hb⟩
theorem leaf_16(n:Int)(s m:bA)(names:List bA)(args:List Xp)(a1:Option Addr)(n1 c1:Nat)(a2:Option Addr)(c2:Nat)(w:World)(hg:bC w)(hs:s.size<=140737488355328)(hm:m.size<=140737488355328):cL (.mk 16 n s m names args) 16 n s m (.slice a1 n1 c1) (.slice a2 args.length c2) w:=by
 unfold cL;have hb:=aB w (.cells #[.int .i64 16,.int .i64 n,.string s,.string m,.slice a1 n1 c1,.slice a2 args.length c2] 32);have HR:Hid (fP (.mk 16 n s m names args)=(decide (n=1)||decide (n=2)||decide (n=4)||decide (n=8))):=zh rfl;clear hg;by_cases h1:n=1
 ·subst h1;exact BC
 have g1:(n==1)=false:=by rw[beq_eq_false_iff_ne];exact h1
 by_cases h2:n=2
 ·subst h2;exact BC
 have g2:(n==2)=false:=by rw[beq_eq_false_iff_ne];exact h2
 by_cases h4:n=4
 ·subst h4;exact BC
 have g4:(n==4)=false:=by rw[beq_eq_false_iff_ne];exact h4
 by_cases h8:n=8
 ·subst h8;exact BC
 have g8:(n==8)=false:=by rw[beq_eq_false_iff_ne];exact h8
 go_enter Tryz.func192,Tryz.ntmps192;go_wp2_with fail;go_ret;exact⟨aF (by rw[HR.out];simp[h1,h2,h4,h8]),hb⟩
theorem iF(op:Int)(ho:op=2\/op=17\/op=18\/op=14\/op=12)(n:Int)(s m:bA)(names:List bA)(args:List Xp)(a1:Option Addr)(n1 c1:Nat)(a2:Option Addr)(c2:Nat)(w:World)(hg:bC w)(hs:s.size<=140737488355328)(hm:m.size<=140737488355328):cL (.mk op n s m names args) op n s m (.slice a1 n1 c1) (.slice a2 args.length c2) w:=by
 unfold cL;have hb:=aB w (.cells #[.int .i64 op,.int .i64 n,.string s,.string m,.slice a1 n1 c1,.slice a2 args.length c2] 32);have HR:Hid (fP (.mk op n s m names args)=bE s):=zh (by rcases ho with rfl|rfl|rfl|rfl|rfl<;>rfl);have HS:=zh (eS s _ CR (hg.later hb));generalize bE s=r at *;clear hg;rcases ho with rfl|rfl|rfl|rfl|rfl
 all_goals
  go_enter Tryz.func192,Tryz.ntmps192;go_wp2_with(go_at_call 85;refine HS.out.mono ?_;rintro e w2 ⟨rfl,rfl⟩);go_ret;exact⟨aF (by rw[HR.out]),hb⟩
theorem leaf_15(n:Int)(s m:bA)(names:List bA)(args:List Xp)(a1:Option Addr)(n1 c1:Nat)(a2:Option Addr)(c2:Nat)(w:World)(hg:bC w)(hs:s.size<=140737488355328)(hm:m.size<=140737488355328):cL (.mk 15 n s m names args) 15 n s m (.slice a1 n1 c1) (.slice a2 args.length c2) w:=by
 unfold cL;have hb:=aB w (.cells #[.int .i64 15,.int .i64 n,.string s,.string m,.slice a1 n1 c1,.slice a2 args.length c2] 32);have HR:Hid (fP (.mk 15 n s m names args)=(bE s&&(decide (m=noB)||bE m)&&decide (args.length<=6))):=zh rfl;have HS:=zh (eS s _ CR (hg.later hb));have HM:=zh (eS m _ CR (hg.later hb));clear hg;have HL:Hid (decide ((args.length:Int)<=6)=decide (args.length<=6)):=zh FK
 cases sY:bE s with
 |false=>
  rw[sY] at HS HR;clear HM sY;go_enter Tryz.func192,Tryz.ntmps192;go_wp2_with fail;go_at_call 85;refine HS.out.mono ?_;rintro e w2 ⟨rfl,rfl⟩;exact BM
 |true=>
  rw[sY] at HS HR;clear sY;by_cases rE:m=noB
  ·subst rE;clear HM;go_enter Tryz.func192,Tryz.ntmps192;go_wp2_with fail;go_at_call 85;refine HS.out.mono ?_;rintro e w2 ⟨rfl,rfl⟩;go_wp2_with fail;go_ret;exact⟨aF (by rw[HR.out];rw[<-HL.out];rfl),hb⟩
  have vO:(m.toList==[])=false:=by rw[beq_eq_false_iff_ne];intro e;exact rE (toList_nil' e)
  rw[decide_eq_false rE] at HR;clear rE
  cases hmn:bE m with
  |false=>
   rw[hmn] at HM HR;clear hmn;go_enter Tryz.func192,Tryz.ntmps192;go_wp2_with fail;go_at_call 85;refine HS.out.mono ?_;rintro e w2 ⟨rfl,rfl⟩;go_wp2_with fail;go_at_call 85;refine HM.out.mono ?_;rintro e w3 ⟨rfl,rfl⟩;exact BM
  |true=>
   rw[hmn] at HM HR;clear hmn;go_enter Tryz.func192,Tryz.ntmps192;go_wp2_with fail;go_at_call 85;refine HS.out.mono ?_;rintro e w2 ⟨rfl,rfl⟩;go_wp2_with fail;go_at_call 85;refine HM.out.mono ?_;rintro e w3 ⟨rfl,rfl⟩;go_wp2_with fail;go_ret;exact⟨aF (by rw[HR.out];rw[<-HL.out];rfl),hb⟩
theorem eG(op:Int)(ho:op=3\/op=4\/op=5\/op=6\/op=7\/op=8\/op=9\/op=10\/op=11)(n:Int)(s m:bA)(names:List bA)(args:List Xp)(a1:Option Addr)(n1 c1:Nat)(a2:Option Addr)(c2:Nat)(w:World)(hg:bC w)(hs:s.size<=140737488355328)(hm:m.size<=140737488355328):cL (.mk op n s m names args) op n s m (.slice a1 n1 c1) (.slice a2 args.length c2) w:=by
 unfold cL;have hb:=aB w (.cells #[.int .i64 op,.int .i64 n,.string s,.string m,.slice a1 n1 c1,.slice a2 args.length c2] 32);have HR:Hid (fP (.mk op n s m names args)=true):=zh (by rcases ho with rfl|rfl|rfl|rfl|rfl|rfl|rfl|rfl|rfl<;>rfl);clear hg;rcases ho with rfl|rfl|rfl|rfl|rfl|rfl|rfl|rfl|rfl
 all_goals
  go_enter Tryz.func192,Tryz.ntmps192;go_wp2_with fail;go_ret;exact⟨aF (by rw[HR.out]),hb⟩
theorem run_leq_str(t:TypeId)(a b:bA)(w:World):(binOp .leq t (.string a) (.string b)).run Tryz.prog w=.ok (.bool (!gtB a b)) w:=by
 simp[binOp,Op.stringOp,gtB]
theorem BT{p:Prop}(h:p:=by
 clear nC rG;go_wp2_with(go_at_call 85;refine(eS x wr hzx (HG.out _ HB.out)).mono ?_;rintro e w5 ⟨rfl,rfl⟩;rw[sY]);go_ret
 exact⟨aF ES,HB.out⟩):p:=h
theorem namesOk_at{l:List bA}{q:Nat}{x:bA}(hx:l[q]? =some x)(before:Option bA):gX before (l.drop q)=(bE x&&(match before with|none=>true|some b=>gtB x b)&&gX (some x) (l.drop (q+1))):=by
 obtain⟨hk,he⟩:=Yb.1 hx;rw[List.drop_eq_getElem_cons hk,he];rfl
def prevS(l:List bA)(q:Nat):Option bA:=if q=0 then none else l[q-1]?
theorem leaf_13(n:Int)(s m:bA)(names:List bA)(args:List Xp)(N:Nat->Prop)(vn:Value)(a2:Option Addr)(n2 c2:Nat)(w:World)(hg:bC w)(hr:aK 1 cD N w vn names):cL (.mk 13 n s m names args) 13 n s m vn (.slice a2 n2 c2) w:=by
 unfold cL;have HG:=zh (fun W(hb:Below w.heap.size w W)=>hg.later hb);have HR:Hid (fP (.mk 13 n s m names args)=(gX none names&&decide (names.length<=8))):=zh rfl;have HD:Hid (decide ((names.length:Int)<=8)=decide (names.length<=8)):=zh FK;clear hg;have hlb:names.length<=9223372036854775807:=by obtain⟨_,_,_,h1,h2,-⟩:=hr;omega
 rcases hr.cases CX with⟨rfl,a,c,rfl⟩|⟨b,o,c,rfl,h0,h1,h2,hb,hN,hc⟩
 ·clear hr;go_enter Tryz.func192,Tryz.ntmps192;go_wp2_with fail;go_loop [82] (fun i=>i=.int .i64 0) (fun _=>0)
  case atStart=>rfl
  case round=>
   subst hrel;go_wp2_with fail;go_ret;exact⟨aF (by rw[HR.out];rfl),aB _ _⟩
 have HC:=zh hc;have tT:=zh (bY w (.cells #[.int .i64 13,.int .i64 n,.string s,.string m,.slice (some ⟨b,o,none⟩) names.length c,.slice a2 n2 c2] 32));clear hc hr;go_enter Tryz.func192,Tryz.ntmps192;go_wp2_with fail;go_loopw [82] (fun iv wr=>∃q:Nat,q<=names.length/\iv=.int .i64 (q:Int)/\Hid (Below (w.alloc (.cells #[.int .i64 13,.int .i64 n,.string s,.string m,.slice (some ⟨b,o,none⟩) names.length c,.slice a2 n2 c2] 32)).heap.size (w.alloc (.cells #[.int .i64 13,.int .i64 n,.string s,.string m,.slice (some ⟨b,o,none⟩) names.length c,.slice a2 n2 c2] 32)) wr)/\Hid (fP (.mk 13 n s m names args)=(gX (prevS names q) (names.drop q)&&decide (names.length<=8)))) (fun iv _=>names.length-(intOf iv).toNat)
 case atStart=>exact⟨0,Nat.zero_le _,rfl,zh (Below.refl _ _),HR⟩
 case round=>
  obtain⟨q,hq,rfl,jL,rG⟩:=hrel;rename World=>wr
  have HB:=zh (aA (aB w (.cells #[.int .i64 13,.int .i64 n,.string s,.string m,.slice (some ⟨b,o,none⟩) names.length c,.slice a2 n2 c2] 32)) jL.out);obtain⟨⟨t0,t1,t2,t3,t4,t5⟩,-⟩:=bx6 (aC jL.out tT.out);by_cases jM:q<names.length
  ·obtain⟨x,hx,mT⟩:=getElem?_of_lt jM;obtain⟨cs,⟨rfl,hzx⟩,-,hj⟩:=HC.out q x hx;have p0:wr.cell? ⟨b,o+q,none⟩=some (.string x):=aD HB.out (by have h:=hj 0 _ rfl;simpa using h);have nC:=zh (rG.out.trans (congrArg (fun z=>z&&decide (names.length<=8)) (namesOk_at hx (prevS names q))));(have tX:prevS names (q+1)=some x:=by unfold prevS;rw[if_neg CR,Nat.add_sub_cancel,hx]);rw[<-tX] at nC;clear hj tX mT
   cases sY:bE x with
   |false=>
    have HF:Hid (fP (.mk 13 n s m names args)=false):=zh (by rw[nC.out,sY];rfl);exact BT
   |true=>
    by_cases tN:q=0
    ·subst tN;(have p00:wr.cell? ⟨b,o,none⟩=some (.string x):=by simpa using p0);have mQ:Hid (fP (.mk 13 n s m names args)=(gX (prevS names (0+1)) (names.drop (0+1))&&decide (names.length<=8))):=zh (by rw[nC.out,sY];simp[prevS]);clear nC rG;go_wp2_with(go_at_call 85;refine(eS x wr hzx (HG.out _ HB.out)).mono ?_;rintro e w5 ⟨rfl,rfl⟩;rw[sY]);go_roundw;(case rel=>exact⟨0+1,CR,C5,jL,mQ⟩);case measure=>simp[intOf];omega
    have qL:0<q:=CR;obtain⟨y,hy,-⟩:=getElem?_of_lt (l:=names) (k:=q-1) CR;obtain⟨cs',⟨rfl,-⟩,-,hj'⟩:=HC.out (q-1) y hy;have hp0:wr.cell? ⟨b,o+(q-1),none⟩=some (.string y):=aD HB.out (by have h:=hj' 0 _ rfl;simpa using h);(have tX:prevS names q=some y:=by unfold prevS;rw[if_neg tN,hy]);rw[tX] at nC;clear hj' tX;have oN:(0:Int)<(q:Int):=CR;have hi1:(0:Int)<=(q:Int)-1:=CR;have hi2:(q:Int)-1<(names.length:Int):=CR;have hi3:((q:Int)-1).toNat=q-1:=CR;have hi4:¬(q:Int)<1:=CR
    cases zI:gtB x y with
    |false=>
     (have hleq:∀W,(binOp .leq 9 (.string x) (.string y)).run Tryz.prog W=.ok (.bool true) W:=fun W=>by rw[run_leq_str,zI];rfl);have HF:Hid (fP (.mk 13 n s m names args)=false):=zh (by rw[nC.out,sY];simp[zI]);exact BT
    |true=>
     (have hleq:∀W,(binOp .leq 9 (.string x) (.string y)).run Tryz.prog W=.ok (.bool false) W:=fun W=>by rw[run_leq_str,zI];rfl);have mQ:Hid (fP (.mk 13 n s m names args)=(gX (prevS names (q+1)) (names.drop (q+1))&&decide (names.length<=8))):=zh (by rw[nC.out,sY];simp[zI]);clear nC rG;go_wp2_with(go_at_call 85;refine(eS x wr hzx (HG.out _ HB.out)).mono ?_;rintro e w5 ⟨rfl,rfl⟩;rw[sY]);go_roundw;(case rel=>exact⟨q+1,CR,C5,jL,mQ⟩);case measure=>simp[intOf];omega
  have tW:q=names.length:=CR;have HT:Hid (fP (.mk 13 n s m names args)=decide (names.length<=8)):=zh (by rw[rG.out,tW,List.drop_length];rfl);go_wp2_with fail;go_ret;exact⟨aF (by rw[HT.out,<-HD.out]),HB.out⟩
def cleanN(op n:Int):Int:=if op=0\/op=1\/op=16 then n else 0
def cleanS(op:Int)(s:bA):bA:=if op=2\/op=17\/op=18\/op=14\/op=12\/op=15 then s else noB
def cleanM(op:Int)(m:bA):bA:=if op=15 then m else noB
def cleanC(op:Int)(k:Nat):Int:=if op=0\/op=1\/op=2\/op=17 then 0 else if op=18\/op=14\/op=16\/op=10 then 1 else if op=11 then 3 else if op=13 then k else if op=15 then -1 else 2
theorem clean_all(op n:Int)(s m:bA)(a1:Option Addr)(n1 c1:Nat)(a2:Option Addr)(n2 c2:Nat)(w:World)(h0:0<=op)(h1:op<19):
  Calls Tryz.prog 191 #[.agg #[.int .i64 op,.int .i64 n,.string s,.string m,.slice a1 n1 c1,.slice a2 n2 c2]] w fun e w'=>e=.returned (.tuple #[.agg #[.int .i64 op,.int .i64 (cleanN op n),.string (cleanS op s),.string (cleanM op m),if op=13 then .slice a1 n1 c1 else .slice none 0 0,.slice a2 n2 c2],.int .i64 (cleanC op n1)])/\Below w.heap.size w w':=by
 obtain⟨V,HV⟩:∃V,Hid (V=Value.tuple #[.agg #[.int .i64 op,.int .i64 (cleanN op n),.string (cleanS op s),.string (cleanM op m),if op=13 then .slice a1 n1 c1 else .slice none 0 0,.slice a2 n2 c2],.int .i64 (cleanC op n1)]):=⟨_,zh rfl⟩;rw[<-HV.out];have hc:(op=0\/op=1\/op=2\/op=3\/op=4\/op=5\/op=6\/op=7\/op=8\/op=9\/op=10\/op=11\/op=12\/op=14\/op=16\/op=17\/op=18)\/op=13\/op=15:=CR;clear h0 h1;rcases hc with(rfl|rfl|rfl|rfl|rfl|rfl|rfl|rfl|rfl|rfl|rfl|rfl|rfl|rfl|rfl|rfl|rfl)|rfl|rfl
 all_goals
  go_enter Tryz.func191,Tryz.ntmps191;go_wp2_with fail;try go_region
  all_goals try go_wp2_with fail
  all_goals refine bodyPost_ret (v:=V) (by rw[HV.out];simp[results,Tryz.results191,go_sem,cleanN,cleanS,cleanM,cleanC,noB]) rfl ⟨rfl,?_⟩
  all_goals repeat(first|exact Below.refl _ _|refine Below.drew ?_|refine Below.alloc ?_ (by simp<;>omega) _|refine Below.setCell ?_ (by simp<;>omega) _)
theorem leaf_any(op n:Int)(s m:bA)(names:List bA)(args:List Xp)(N:Nat->Prop)(vn va:Value)(w:World)(h0:0<=op)(h1:op<19)(hg:bC w)(he:wX N w (.mk op n s m names args) [.int .i64 op,.int .i64 n,.string s,.string m,vn,va]):
  cL (.mk op n s m names args) op n s m vn va w:=by
 rw[wX_iff] at he;obtain⟨v1,v2,e,hs,hm,hn,a2,c2,rfl,-⟩:=he;cases e;have zC:=hn;obtain⟨a1,c1,rfl,-⟩:=zC;have hc:op=0\/op=1\/op=2\/op=3\/op=4\/op=5\/op=6\/op=7\/op=8\/op=9\/op=10\/op=11\/op=12\/op=13\/op=14\/op=15\/op=16\/op=17\/op=18:=CR;rcases hc with rfl|rfl|rfl|rfl|rfl|rfl|rfl|rfl|rfl|rfl|rfl|rfl|rfl|rfl|rfl|rfl|rfl|rfl|rfl
 ·exact leaf_0 n s m names args a1 names.length c1 a2 c2 w hg hs hm
 ·exact leaf_1 n s m names args a1 names.length c1 a2 c2 w hg hs hm
 ·exact iF 2 C0 n s m names args a1 names.length c1 a2 c2 w hg hs hm
 ·exact eG 3 C0 n s m names args a1 names.length c1 a2 c2 w hg hs hm
 ·exact eG 4 C0 n s m names args a1 names.length c1 a2 c2 w hg hs hm
 ·exact eG 5 C0 n s m names args a1 names.length c1 a2 c2 w hg hs hm
 ·exact eG 6 C0 n s m names args a1 names.length c1 a2 c2 w hg hs hm
 ·exact eG 7 C0 n s m names args a1 names.length c1 a2 c2 w hg hs hm
 ·exact eG 8 C0 n s m names args a1 names.length c1 a2 c2 w hg hs hm
 ·exact eG 9 C0 n s m names args a1 names.length c1 a2 c2 w hg hs hm
 ·exact eG 10 C0 n s m names args a1 names.length c1 a2 c2 w hg hs hm
 ·exact eG 11 C0 n s m names args a1 names.length c1 a2 c2 w hg hs hm
 ·exact iF 12 C0 n s m names args a1 names.length c1 a2 c2 w hg hs hm
 ·exact leaf_13 n s m names args N _ a2 args.length c2 w hg hn
 ·exact iF 14 C0 n s m names args a1 names.length c1 a2 c2 w hg hs hm
 ·exact leaf_15 n s m names args a1 names.length c1 a2 c2 w hg hs hm
 ·exact leaf_16 n s m names args a1 names.length c1 a2 c2 w hg hs hm
 ·exact iF 17 C0 n s m names args a1 names.length c1 a2 c2 w hg hs hm
 exact iF 18 C0 n s m names args a1 names.length c1 a2 c2 w hg hs hm
def CleanSays(op n:Int)(s m:bA)(a1:Option Addr)(n1 c1:Nat)(va:Value)(w:World):Prop:=Calls Tryz.prog 191 #[.agg #[.int .i64 op,.int .i64 n,.string s,.string m,.slice a1 n1 c1,va]] w fun e w'=>∃a3 n3 c3,e=.returned (.tuple #[.agg #[.int .i64 op,.int .i64 (cleanN op n),.string (cleanS op s),.string (cleanM op m),.slice a3 n3 c3,va],.int .i64 (cleanC op n1)])/\n3=(if op=13 then n1 else 0)/\Below w.heap.size w w'
theorem clean_any(op n:Int)(s m:bA)(a1:Option Addr)(n1 c1:Nat)(a2:Option Addr)(n2 c2:Nat)(w:World)(h0:0<=op)(h1:op<19):CleanSays op n s m a1 n1 c1 (.slice a2 n2 c2) w:=by
 by_cases h:op=13
 ·subst h;exact(clean_all 13 n s m a1 n1 c1 a2 n2 c2 w CR CR).mono fun e w' h=>⟨a1,n1,c1,h.1,rfl,h.2⟩
 refine(clean_all op n s m a1 n1 c1 a2 n2 c2 w h0 h1).mono fun e w' h2=>?_;rw[if_neg h] at h2;exact⟨none,0,0,h2.1,by rw[if_neg h],h2.2⟩
theorem cleanX_eq(op n:Int)(s m:bA)(names:List bA)(args:List Xp)(h0:0<=op)(h1:op<19):cleanX (.mk op n s m names args)=((cleanN op n,cleanS op s,cleanM op m,if op=13 then names else[]),cleanC op names.length):=by
 have hc:op=0\/op=1\/op=2\/op=3\/op=4\/op=5\/op=6\/op=7\/op=8\/op=9\/op=10\/op=11\/op=12\/op=13\/op=14\/op=15\/op=16\/op=17\/op=18:=CR;rcases hc with rfl|rfl|rfl|rfl|rfl|rfl|rfl|rfl|rfl|rfl|rfl|rfl|rfl|rfl|rfl|rfl|rfl|rfl|rfl<;>rfl
theorem CK{p:Prop}(h:p:=by
 clear he0 hg sS;go_enter Tryz.func141,Tryz.ntmps141;go_wp2_with fail;go_ret
 exact⟨aF ES,aB _ _⟩):p:=h
def RightXpAt(d:Nat):Prop:=∀(x:Xp)(N:Nat->Prop)(op n:Int)(s m:bA)(vn va:Value)(w:World),d<=100->bC w->wX N w x [.int .i64 op,.int .i64 n,.string s,.string m,vn,va]->
  Calls Tryz.prog 141 #[.agg #[.int .i64 op,.int .i64 n,.string s,.string m,vn,va],.int .i64 (d:Int)] w fun e w'=>e=.returned (.bool (aX d x))/\Below w.heap.size w w'
theorem rightExp_zero:RightXpAt 0:=by
  rintro⟨op',n',s',m',names,args⟩ N op n s m vn va w-hg he;have HR:Hid (aX 0 (.mk op' n' s' m' names args)=false):=zh rfl;obtain⟨⟨a1,n1,c1,rfl⟩,a2,n2,c2,rfl⟩:=wX_slices he;clear he hg;go_enter Tryz.func141,Tryz.ntmps141;go_wp2_with fail;go_ret;exact⟨aF (by rw[HR.out]),aB _ _⟩
theorem rightExp_step(d:Nat)(IH:RightXpAt d):RightXpAt (d+1):=by
  rintro⟨op,n,s,m,names,args⟩ N op' n' s' m' vn va w hd hg he;have he0:=he;rw[wX_iff] at he;obtain⟨v1,v2,e,hs,hm,hn,hr⟩:=he;cases e;have HIH:=zh (fun x N op n s m vn va w h2 h3=>IH x N op n s m vn va w CR h2 h3);have HG:=zh (fun W(hb:Below w.heap.size w W)=>hg.later hb);have qJ:=zh he0;have sS:((d+1:Nat):Int)=(d:Int)+1:=CR;rw[sS];have hd0:((d:Int)+1==0)=false:=DN;have hd1:(d:Int)<=100:=CR;obtain⟨a1,c1,rfl,sC,tP,-⟩:=hn;have hr':=hr;obtain⟨a2,c2,rfl,hl3,hl4,-⟩:=hr';have hlb:args.length<=9223372036854775807:=CR;have tO:names.length<=9223372036854775807:=CR;by_cases h0:0<=op
  ·by_cases h1:op<19
   ·have HR:Hid (aX (d+1) (.mk op n s m names args)=((decide (cleanC op names.length<0)||decide (cleanC op names.length=args.length))&&decide (cleanN op n=n)&&decide (cleanS op s=s)&&decide (cleanM op m=m)&&decide ((if op=13 then names.length else 0)=names.length)&&fP (.mk op n s m names args)&&args.all (aX d))):=zh (by
     rw[aX,cleanX_eq op n s m names args h0 h1,decide_eq_true h0,decide_eq_true h1];simp only[Bool.true_and];congr 4
     by_cases h:op=13<;>simp[h])
    have rH:=zh (fun W=>clean_any op n s m a1 names.length c1 a2 args.length c2 W h0 h1);unfold CleanSays at rH;have HLf:=zh (fun W(hb:Below w.heap.size w W)=>leaf_any op n s m names args N _ _ W h0 h1 (HG.out W hb) (gW _ _ _ _ _ _ (aM.later hb) he0));unfold cL at HLf;have g0:¬op<0:=CR;have g1:¬19<=op:=CR;generalize cleanN op n=cN at rH HR;generalize cleanS op s=cS at rH HR;generalize cleanM op m=cM at rH HR;generalize cleanC op names.length=cC at rH HR;generalize (if op=13 then names.length else 0)=k3 at rH HR;generalize fP (.mk op n s m names args)=lf at HLf HR;clear he0 hg sS;by_cases hA:cC<0\/cC=args.length
    ·(have hA':(decide (cC<0)||decide (cC=args.length))=true:=by rcases hA with h|h<;>simp[h]);rw[hA',Bool.true_and] at HR;by_cases hB:cN=n
     ·(have hB':(cN != n)=false:=by rw[bne_eq_false_iff_eq];exact hB);rw[decide_eq_true hB,Bool.true_and] at HR;by_cases hC:cS=s
      ·(have hC':(cS.toList==s.toList)=true:=by rw[dR];exact decide_eq_true hC);rw[decide_eq_true hC,Bool.true_and] at HR;by_cases hD:cM=m
       ·(have hD':(cM.toList==m.toList)=true:=by rw[dR];exact decide_eq_true hD);rw[decide_eq_true hD,Bool.true_and] at HR;by_cases hE:k3=names.length
        ·(have hE':((k3:Int) != (names.length:Int))=false:=by rw[bne_eq_false_iff_eq];omega);rw[decide_eq_true hE,Bool.true_and] at HR;clear hB hC hD hE hA';rcases hA with hA|hA
         focus
          have vR:¬0<=cC:=CR;have hA2:cC<0:=hA
         rotate_left
         focus
          have vR:0<=cC:=CR;have hA1:(cC != (args.length:Int))=false:=D1;clear hA
         all_goals
          cases lf with
          |false=>
           have HF:Hid (aX (d+1) (.mk op n s m names args)=false):=zh (by rw[HR.out];rfl);go_enter Tryz.func141,Tryz.ntmps141;go_wp2_with(first|(go_at_call 192;refine(HLf.out _ jF.out).mono ?_;rintro e w4 ⟨rfl,pV⟩;obtain⟨⟨u0,u1,u2,u3,u4,u5⟩,-⟩:=bx6 (aC pV rI.out))|(go_at_call 191;refine(rH.out (w.alloc (.cells #[.int .i64 op,.int .i64 n,.string s,.string m,.slice a1 names.length c1,.slice a2 args.length c2] 32))).mono ?_;rintro e w2 ⟨a3,n3,c3,rfl,rfl,jP⟩;have jF:=zh (aA (aA (aB w (.cells #[.int .i64 op,.int .i64 n,.string s,.string m,.slice a1 names.length c1,.slice a2 args.length c2] 32)) jP) (aB w2 (.cells #[.int .i64 op,.int .i64 cN,.string cS,.string cM,.slice a3 n3 c3,.slice a2 args.length c2] 32)));have rI:=zh (aC (aA jP (aB w2 (.cells #[.int .i64 op,.int .i64 cN,.string cS,.string cM,.slice a3 n3 c3,.slice a2 args.length c2] 32))) (bY w (.cells #[.int .i64 op,.int .i64 n,.string s,.string m,.slice a1 names.length c1,.slice a2 args.length c2] 32)));obtain⟨⟨t0,t1,t2,t3,t4,t5⟩,-⟩:=bx6 rI.out));go_ret;exact⟨aF ES,aA jF.out pV⟩
          |true=>
           have HS0:Hid (aX (d+1) (.mk op n s m names args)=args.all (aX d)):=zh (by rw[HR.out];rfl);have hrc:=hr.cases CX;clear HR hr;rcases hrc with⟨wK,a',c',hv⟩|⟨b,o,c',hv,h0',h1',h2',hb,hN,hc⟩
           ·have HN0:Hid (args.length=0):=zh (by rw[wK];rfl);clear hv wK;go_enter Tryz.func141,Tryz.ntmps141;go_wp2_with(first|(go_at_call 192;refine(HLf.out _ jF.out).mono ?_;rintro e w4 ⟨rfl,pV⟩;obtain⟨⟨u0,u1,u2,u3,u4,u5⟩,-⟩:=bx6 (aC pV rI.out))|(go_at_call 191;refine(rH.out (w.alloc (.cells #[.int .i64 op,.int .i64 n,.string s,.string m,.slice a1 names.length c1,.slice a2 args.length c2] 32))).mono ?_;rintro e w2 ⟨a3,n3,c3,rfl,rfl,jP⟩;have jF:=zh (aA (aA (aB w (.cells #[.int .i64 op,.int .i64 n,.string s,.string m,.slice a1 names.length c1,.slice a2 args.length c2] 32)) jP) (aB w2 (.cells #[.int .i64 op,.int .i64 cN,.string cS,.string cM,.slice a3 n3 c3,.slice a2 args.length c2] 32)));have rI:=zh (aC (aA jP (aB w2 (.cells #[.int .i64 op,.int .i64 cN,.string cS,.string cM,.slice a3 n3 c3,.slice a2 args.length c2] 32))) (bY w (.cells #[.int .i64 op,.int .i64 n,.string s,.string m,.slice a1 names.length c1,.slice a2 args.length c2] 32)));obtain⟨⟨t0,t1,t2,t3,t4,t5⟩,-⟩:=bx6 rI.out));have oZ:=zh (aA jF.out pV);(go_loopw [73] (fun iv wr=>iv=.int .i64 0/\Hid (Below w.heap.size w wr)) (fun _ _=>0));case atStart=>exact⟨rfl,oZ⟩
            case round=>
             obtain⟨rfl,HB⟩:=hrel;(have hl0:¬(0:Int)<(args.length:Int):=by have:=HN0.out;omega);go_wp2_with fail;go_ret;exact⟨aF (by rw[HS0.out,List.eq_nil_of_length_eq_zero HN0.out];rfl),HB.out⟩
           cases hv;have HC:=zh hc;clear hc;go_enter Tryz.func141,Tryz.ntmps141;go_wp2_with(first|(go_at_call 192;refine(HLf.out _ jF.out).mono ?_;rintro e w4 ⟨rfl,pV⟩;obtain⟨⟨u0,u1,u2,u3,u4,u5⟩,-⟩:=bx6 (aC pV rI.out))|(go_at_call 191;refine(rH.out (w.alloc (.cells #[.int .i64 op,.int .i64 n,.string s,.string m,.slice a1 names.length c1,.slice (some ⟨b,o,none⟩) args.length c2] 32))).mono ?_;rintro e w2 ⟨a3,n3,c3,rfl,rfl,jP⟩;have jF:=zh (aA (aA (aB w (.cells #[.int .i64 op,.int .i64 n,.string s,.string m,.slice a1 names.length c1,.slice (some ⟨b,o,none⟩) args.length c2] 32)) jP) (aB w2 (.cells #[.int .i64 op,.int .i64 cN,.string cS,.string cM,.slice a3 n3 c3,.slice (some ⟨b,o,none⟩) args.length c2] 32)));have rI:=zh (aC (aA jP (aB w2 (.cells #[.int .i64 op,.int .i64 cN,.string cS,.string cM,.slice a3 n3 c3,.slice (some ⟨b,o,none⟩) args.length c2] 32))) (bY w (.cells #[.int .i64 op,.int .i64 n,.string s,.string m,.slice a1 names.length c1,.slice (some ⟨b,o,none⟩) args.length c2] 32)));obtain⟨⟨t0,t1,t2,t3,t4,t5⟩,-⟩:=bx6 rI.out));have oZ:=zh (aA jF.out pV);clear pV jP jF t0 t1 t2 t3 t4 t5 u0 u1 u2 u3 u4 u5 rH HLf;(go_loopw [73] (fun iv wr=>∃q:Nat,q<=args.length/\iv=.int .i64 (q:Int)/\Hid (Below w.heap.size w wr)/\Hid (aX (d+1) (.mk op n s m names args)=(args.drop q).all (aX d))) (fun iv _=>args.length-(intOf iv).toNat));case atStart=>exact⟨0,Nat.zero_le _,rfl,oZ,HS0⟩
           case round=>
            obtain⟨q,hq,rfl,HB,rG⟩:=hrel;(rename World=>wr);by_cases jM:q<args.length
            ·obtain⟨x,hx,-⟩:=getElem?_of_lt jM;obtain⟨cs,het,-,hj⟩:=HC.out q x hx;have nC:=zh (rG.out.trans (all_at hx))
             cases x with
             |mk qV n2 s2 m2 names2 args2=>
              have het2:=het;rw[wX_iff] at het2;obtain⟨vn2,va2,rfl,-,-,rT,xL⟩:=het2;obtain⟨a3',cc1,rfl,-⟩:=rT;obtain⟨a4',cc2,rfl,-⟩:=xL;have p0:wr.cell? ⟨b,o+q*6,none⟩=some (.int .i64 qV):=aD HB.out (hj 0 _ rfl);have p1:=aD HB.out (hj 1 _ rfl);have p2:=aD HB.out (hj 2 _ rfl);have p3:=aD HB.out (hj 3 _ rfl);have p4:=aD HB.out (hj 4 _ rfl);have p5:=aD HB.out (hj 5 _ rfl);have HL:=zh (fun W(h:Below w.heap.size w W)=>HIH.out (.mk qV n2 s2 m2 names2 args2) N qV n2 s2 m2 _ _ W (HG.out W h) (gW _ _ _ _ _ _ (aM.later h) het));clear hj het hx;generalize aX d (.mk qV n2 s2 m2 names2 args2)=r0 at HL nC;generalize names2.length=ln at *;generalize args2.length=la at *
              cases r0 with
              |false=>
               have HF:Hid (aX (d+1) (.mk op n s m names args)=false):=zh (by rw[nC.out];rfl);clear nC rG;go_wp2_with(go_at_call 141;refine(HL.out _ (aA HB.out (aB _ _))).mono ?_;rintro e w1 ⟨rfl,kK⟩);go_ret;exact⟨aF ES,aA HB.out (aA (aB _ _) kK)⟩
              |true=>
               have mQ:Hid (aX (d+1) (.mk op n s m names args)=(args.drop (q+1)).all (aX d)):=zh (by rw[nC.out];rfl);clear nC rG;go_wp2_with(go_at_call 141;refine(HL.out _ (aA HB.out (aB _ _))).mono ?_;rintro e w1 ⟨rfl,kK⟩);go_roundw;(case rel=>exact⟨q+1,CR,C5,zh (aA HB.out (aA (aB _ _) kK)),mQ⟩);case measure=>simp[intOf];omega
            have tW:q=args.length:=CR;have HT:Hid (aX (d+1) (.mk op n s m names args)=true):=zh (by rw[rG.out,tW,List.drop_length];rfl);go_wp2_with fail;go_ret;exact⟨aF (by rw[HT.out]),HB.out⟩
        (have hE':((k3:Int) != (names.length:Int))=true:=by rw[bne_iff_ne];omega);have HF:Hid (aX (d+1) (.mk op n s m names args)=false):=zh (by rw[HR.out,decide_eq_false hE];rfl);clear hB hC hD hE hA';rcases hA with hA|hA
        focus
         have vR:¬0<=cC:=CR;have hA2:cC<0:=hA
        rotate_left
        focus
         have vR:0<=cC:=CR;have hA1:(cC != (args.length:Int))=false:=D1;clear hA
        all_goals
         go_enter Tryz.func141,Tryz.ntmps141;go_wp2_with(go_at_call 191;refine(rH.out (w.alloc (.cells #[.int .i64 op,.int .i64 n,.string s,.string m,.slice a1 names.length c1,.slice a2 args.length c2] 32))).mono ?_;rintro e w2 ⟨a3,n3,c3,rfl,rfl,jP⟩;have jF:=zh (aA (aA (aB w (.cells #[.int .i64 op,.int .i64 n,.string s,.string m,.slice a1 names.length c1,.slice a2 args.length c2] 32)) jP) (aB w2 (.cells #[.int .i64 op,.int .i64 cN,.string cS,.string cM,.slice a3 n3 c3,.slice a2 args.length c2] 32)));have rI:=zh (aC (aA jP (aB w2 (.cells #[.int .i64 op,.int .i64 cN,.string cS,.string cM,.slice a3 n3 c3,.slice a2 args.length c2] 32))) (bY w (.cells #[.int .i64 op,.int .i64 n,.string s,.string m,.slice a1 names.length c1,.slice a2 args.length c2] 32)));obtain⟨⟨t0,t1,t2,t3,t4,t5⟩,-⟩:=bx6 rI.out);go_ret;exact⟨aF ES,jF.out⟩
       (have hD':(cM.toList==m.toList)=false:=by rw[dR];exact decide_eq_false hD);have HF:Hid (aX (d+1) (.mk op n s m names args)=false):=zh (by rw[HR.out,decide_eq_false hD];rfl);clear hB hC hD hA';rcases hA with hA|hA
       focus
        have vR:¬0<=cC:=CR;have hA2:cC<0:=hA
       rotate_left
       focus
        have vR:0<=cC:=CR;have hA1:(cC != (args.length:Int))=false:=D1;clear hA
       all_goals
        go_enter Tryz.func141,Tryz.ntmps141;go_wp2_with(go_at_call 191;refine(rH.out (w.alloc (.cells #[.int .i64 op,.int .i64 n,.string s,.string m,.slice a1 names.length c1,.slice a2 args.length c2] 32))).mono ?_;rintro e w2 ⟨a3,n3,c3,rfl,rfl,jP⟩;have jF:=zh (aA (aA (aB w (.cells #[.int .i64 op,.int .i64 n,.string s,.string m,.slice a1 names.length c1,.slice a2 args.length c2] 32)) jP) (aB w2 (.cells #[.int .i64 op,.int .i64 cN,.string cS,.string cM,.slice a3 n3 c3,.slice a2 args.length c2] 32)));have rI:=zh (aC (aA jP (aB w2 (.cells #[.int .i64 op,.int .i64 cN,.string cS,.string cM,.slice a3 n3 c3,.slice a2 args.length c2] 32))) (bY w (.cells #[.int .i64 op,.int .i64 n,.string s,.string m,.slice a1 names.length c1,.slice a2 args.length c2] 32)));obtain⟨⟨t0,t1,t2,t3,t4,t5⟩,-⟩:=bx6 rI.out);go_ret;exact⟨aF ES,jF.out⟩
      (have hC':(cS.toList==s.toList)=false:=by rw[dR];exact decide_eq_false hC);have HF:Hid (aX (d+1) (.mk op n s m names args)=false):=zh (by rw[HR.out,decide_eq_false hC];rfl);clear hB hC hA';rcases hA with hA|hA
      focus
       have vR:¬0<=cC:=CR;have hA2:cC<0:=hA
      rotate_left
      focus
       have vR:0<=cC:=CR;have hA1:(cC != (args.length:Int))=false:=D1;clear hA
      all_goals
       go_enter Tryz.func141,Tryz.ntmps141;go_wp2_with(go_at_call 191;refine(rH.out (w.alloc (.cells #[.int .i64 op,.int .i64 n,.string s,.string m,.slice a1 names.length c1,.slice a2 args.length c2] 32))).mono ?_;rintro e w2 ⟨a3,n3,c3,rfl,rfl,jP⟩;have jF:=zh (aA (aA (aB w (.cells #[.int .i64 op,.int .i64 n,.string s,.string m,.slice a1 names.length c1,.slice a2 args.length c2] 32)) jP) (aB w2 (.cells #[.int .i64 op,.int .i64 cN,.string cS,.string cM,.slice a3 n3 c3,.slice a2 args.length c2] 32)));have rI:=zh (aC (aA jP (aB w2 (.cells #[.int .i64 op,.int .i64 cN,.string cS,.string cM,.slice a3 n3 c3,.slice a2 args.length c2] 32))) (bY w (.cells #[.int .i64 op,.int .i64 n,.string s,.string m,.slice a1 names.length c1,.slice a2 args.length c2] 32)));obtain⟨⟨t0,t1,t2,t3,t4,t5⟩,-⟩:=bx6 rI.out);go_ret;exact⟨aF ES,jF.out⟩
     (have hB':(cN != n)=true:=by rw[bne_iff_ne];exact hB);have HF:Hid (aX (d+1) (.mk op n s m names args)=false):=zh (by rw[HR.out,decide_eq_false hB];rfl);clear hB hA';rcases hA with hA|hA
     focus
      have vR:¬0<=cC:=CR;have hA2:cC<0:=hA
     rotate_left
     focus
      have vR:0<=cC:=CR;have hA1:(cC != (args.length:Int))=false:=D1;clear hA
     all_goals
      go_enter Tryz.func141,Tryz.ntmps141;go_wp2_with(go_at_call 191;refine(rH.out (w.alloc (.cells #[.int .i64 op,.int .i64 n,.string s,.string m,.slice a1 names.length c1,.slice a2 args.length c2] 32))).mono ?_;rintro e w2 ⟨a3,n3,c3,rfl,rfl,jP⟩;have jF:=zh (aA (aA (aB w (.cells #[.int .i64 op,.int .i64 n,.string s,.string m,.slice a1 names.length c1,.slice a2 args.length c2] 32)) jP) (aB w2 (.cells #[.int .i64 op,.int .i64 cN,.string cS,.string cM,.slice a3 n3 c3,.slice a2 args.length c2] 32)));have rI:=zh (aC (aA jP (aB w2 (.cells #[.int .i64 op,.int .i64 cN,.string cS,.string cM,.slice a3 n3 c3,.slice a2 args.length c2] 32))) (bY w (.cells #[.int .i64 op,.int .i64 n,.string s,.string m,.slice a1 names.length c1,.slice a2 args.length c2] 32)));obtain⟨⟨t0,t1,t2,t3,t4,t5⟩,-⟩:=bx6 rI.out);go_ret;exact⟨aF ES,jF.out⟩
    have vR:0<=cC:=CR;(have hA1:(cC != (args.length:Int))=true:=by rw[bne_iff_ne];omega);have HF:Hid (aX (d+1) (.mk op n s m names args)=false):=zh (by rw[HR.out,decide_eq_false (fun h=>hA (.inl h)),decide_eq_false (fun h=>hA (.inr h))];rfl);clear hA;go_enter Tryz.func141,Tryz.ntmps141;go_wp2_with(go_at_call 191;refine(rH.out (w.alloc (.cells #[.int .i64 op,.int .i64 n,.string s,.string m,.slice a1 names.length c1,.slice a2 args.length c2] 32))).mono ?_;rintro e w2 ⟨a3,n3,c3,rfl,rfl,jP⟩;have jF:=zh (aA (aA (aB w (.cells #[.int .i64 op,.int .i64 n,.string s,.string m,.slice a1 names.length c1,.slice a2 args.length c2] 32)) jP) (aB w2 (.cells #[.int .i64 op,.int .i64 cN,.string cS,.string cM,.slice a3 n3 c3,.slice a2 args.length c2] 32)));have rI:=zh (aC (aA jP (aB w2 (.cells #[.int .i64 op,.int .i64 cN,.string cS,.string cM,.slice a3 n3 c3,.slice a2 args.length c2] 32))) (bY w (.cells #[.int .i64 op,.int .i64 n,.string s,.string m,.slice a1 names.length c1,.slice a2 args.length c2] 32)));obtain⟨⟨t0,t1,t2,t3,t4,t5⟩,-⟩:=bx6 rI.out);go_ret;exact⟨aF ES,jF.out⟩
   have HF:Hid (aX (d+1) (.mk op n s m names args)=false):=zh (by rw[aX,decide_eq_false h1];simp);have g0:¬op<0:=CR;have g1:19<=op:=CR;exact CK
  have HF:Hid (aX (d+1) (.mk op n s m names args)=false):=zh (by rw[aX,decide_eq_false h0];simp);have g0:op<0:=CR;exact CK
theorem rightExp_any:RightXpAll:=fun d=>by
 induction d with
 |zero=>exact rightExp_zero
 |succ d ih=>exact rightExp_step d ih
end Go.Proofs.YtmpopphjaggeoaaGreatDoor
