/- Texts of this seat, joined. -/
import Derived.Test.YtacgopankhpnbaaGreatDoorSAG
import Derived.Test.YtacgopankhpnbaaGreatDoorSAF
set_option linter.unusedVariables false
set_option linter.unusedSimpArgs false
namespace Go.Proofs.YtacgopankhpnbaaGreatDoor
open Go.RowKit
def encA{α:Type}(o:Option Nat)(enc:(Nat->Prop)->World->α->List Value->Prop)(N:Nat->Prop)(w:World)(x:α)(cs:List Value):Prop:=enc (fun b=>N b/\o≠some b) w x cs
theorem encA_ok{α:Type}(o:Option Nat){enc:(Nat->Prop)->World->α->List Value->Prop}(he:eD enc):eD (encA o enc):=fun _ _ _ _ _ _ hm h=>he _ _ _ _ _ _ (fun b hb hl=>⟨⟨(hm b hb.1 hl).1,hb.2⟩,(hm b hb.1 hl).2⟩) h
structure Pair {α β:Type} (k1:Nat) (T1:TypeId) (enc1:(Nat->Prop)->World->α->List Value->Prop) (k2:Nat) (T2:TypeId) (enc2:(Nat->Prop)->World->β->List Value->Prop) (B:Nat) (l1:List α) (c1:List (List Value)) (v1:Value) (l2:List β) (c2:List (List Value)) (v2:Value) (w:World):Prop where
 a:Gro k1 T1 (encA v2.ownBlock enc1) B l1 c1 v1 w
 b:Gro k2 T2 (encA v1.ownBlock enc2) B l2 c2 v2 w
 d:∀b,v1.ownBlock=some b->v2.ownBlock≠some b
section
variable {α β:Type} {k1 k2:Nat} {T1 T2:TypeId} {enc1:(Nat->Prop)->World->α->List Value->Prop} {enc2:(Nat->Prop)->World->β->List Value->Prop} {B:Nat} {l1:List α} {l2:List β} {c1 c2:List (List Value)} {v1 v2:Value} {w w' w9 qJ:World}
theorem Pair.swap(h:Pair k1 T1 enc1 k2 T2 enc2 B l1 c1 v1 l2 c2 v2 w):Pair k2 T2 enc2 k1 T1 enc1 B l2 c2 v2 l1 c1 v1 w:=⟨h.b,h.a,fun b hb e=>h.d b e hb⟩
theorem Pair.stays(CD:eD enc1)(xY:eD enc2)(h:Pair k1 T1 enc1 k2 T2 enc2 B l1 c1 v1 l2 c2 v2 w)(hs:cZ B w w'):Pair k1 T1 enc1 k2 T2 enc2 B l1 c1 v1 l2 c2 v2 w':=⟨h.a.stays (encA_ok _ CD) hs,h.b.stays (encA_ok _ xY) hs,h.d⟩
theorem Pair.add{x:α}{news:List Value}{g cap n1:Nat}(CD:eD enc1)(xY:eD enc2)(h:Pair k1 T1 enc1 k2 T2 enc2 B l1 c1 v1 l2 c2 v2 w9)(hx:encA v2.ownBlock enc1 (lC B v1) w9 x news)(hk:news.length=k1)
  (pP:qJ.ownsRow B T1 k1 (.slice (some ⟨g,0,none⟩) n1 cap) n1 (c1.flatten++news)) (hn:n1=l1.length+1) (pO:w9.grownBy qJ v1.ownBlock) (qA:v1.ownBlock=some g\/g=w9.heap.size):
  Pair k1 T1 enc1 k2 T2 enc2 B (l1++[x]) (c1++[news]) (.slice (some ⟨g,0,none⟩) n1 cap) l2 c2 v2 qJ:=by
 subst hn;have uE:=h.b.lt
 have hg:∀b,b<w9.heap.size->v1.ownBlock≠some b->b≠g:=fun b hb hn e=>by
  subst e;rcases qA with h1|h1
  ·exact hn h1
  ·omega
 refine⟨h.a.added (encA_ok _ CD) hx hk pP pO qA,?_,fun b hb e=>?_⟩
 ·refine h.b.change pO.size (fun b hb=>pO.block b (uE b hb).2 fun e=>h.d b e.symm hb) (fun y c hy=>?_);refine xY _ _ _ _ _ _ (fun b hb hl=>⟨⟨hb.1,fun e=>?_⟩,fun o u hu=>pO.cell hu (fun e=>hb.2 e.symm)⟩) hy;have e:g=b:=XS;exact hg b hl hb.2 e.symm
 ·have pR:g=b:=XQ;subst pR;rcases qA with h1|h1
  ·exact h.d g h1 e
  ·have:=(uE g e).2;omega
theorem Pair.row(CD:eD enc1)(h:Pair k1 T1 enc1 k2 T2 enc2 B l1 c1 v1 l2 c2 v2 w):aK k1 enc1 (bD B) w v1 l1:=by
 obtain⟨a,c,h1,h2,h3,h4⟩:=h.a.row (encA_ok _ CD);refine⟨a,c,h1,h2,h3,fun pQ=>?_⟩;obtain⟨b,o,e1,e2,e3⟩:=h4 pQ;refine⟨b,o,e1,e2,fun i x hx=>?_⟩;obtain⟨cs,f1,f2,f3⟩:=e3 i x hx;exact⟨cs,CD.wide f1 (fun b hb _=>hb.1),f2,f3⟩
end
def eH(B C:Nat):Nat->Prop:=fun b=>B<=b/\b<C
theorem aK.betw{α:Type}{k:Nat}{enc:(Nat->Prop)->World->α->List Value->Prop}(he:eD enc)(hk:0<k){B:Nat}{w:World}{v:Value}{l:List α}(h:aK k enc (bD B) w v l):aK k enc (eH B w.heap.size) w v l:=h.moves he (fun _ hb hl=>⟨⟨hb,hl⟩,fun _ _ h=>h⟩) hk
section
variable {T:TypeId} {zero cells:Array Value} {p:Prs} {O S:Nat->Prop} {W w8 qJ:World} {b5 B q i0:Nat} {E:World->Prop}
theorem Mk.above(h:Mk T zero p O S W b5 cells E q w8)(hW:p.At W i0)(hb:b5<B)(ho:Off (fun b=>B<=b) w8 qJ)(hE:dK (fun b=>B<=b) E):Mk T zero p O S W b5 cells E q qJ:=by
 have h1:=h.hb5;exact⟨Off.fresh ((h.off.or _).trans (ho.mono fun b hb=>.inr YI)) (Nat.le_refl _),ho.heap VG h.res,ho.heap VG h.loc,hW.above h.at_ (ho.mono fun b hb=>YI),hE _ _ ho h.enc,h.st,h1,h.sO,h.s5,h.sR,h.sP⟩
theorem Mk.drew(h:Mk T zero p O S W b5 cells E q w8):Mk T zero p O S W b5 cells E q w8.drew:=h.below (aE _)
theorem Mk.wide{S':Nat->Prop}(h:Mk T zero p O S W b5 cells (fun _=>True) q w8)(h1:∀b,S' b->O b\/W.heap.size<b)(h2:¬S' b5)(h3:¬S' W.heap.size)(h4:S' p.pb):Mk T zero p O S' W b5 cells (fun _=>True) q w8:=
 ⟨h.off,h.res,h.loc,h.at_,trivial,dK.true,h.hb5,h1,h2,h3,h4⟩
end
def encM(N:Nat->Prop)(w:World)(m:Mdl)(cs:List Value):Prop:=∃vu vv vi vf vo vw vb,cs=[.string m.name,vu,vv,vi,vf,.bool m.moves,vo,vw,vb]/\m.name.size<=8000/\
 aK 1 cK N w vu m.uses/\aK 3 fR N w vv m.vars/\aK 6 bV N w vi m.init/\aK 12 oC N w vf m.funcs/\aK 3 fR N w vo m.old/\aK 6 bV N w vw m.forward/\aK 6 bV N w vb m.back
theorem encM_ok:eD encM:=fun _ _ _ _ f cs hm h=>by
 obtain⟨vu,vv,vi,vf,vo,vw,vb,h1,h2,h3,h4,h5,h6,h7,h8,h9⟩:=h;exact⟨vu,vv,vi,vf,vo,vw,vb,h1,h2,h3.moves aQ hm VI,h4.moves aV hm VI,h5.moves aG hm VI,h6.moves cD hm VI,h7.moves aV hm VI,h8.moves aG hm VI,h9.moves aG hm VI⟩
theorem bx9{w:World}{b:Nat}{x0 x1 x2 x3 x4 x5 x6 x7 x8:Value}{t:TypeId}(h:w.heap[b]? =some (.cells #[x0,x1,x2,x3,x4,x5,x6,x7,x8] t)):
  (w.cell? ⟨b,0,none⟩=some x0/\w.cell? ⟨b,1,none⟩=some x1/\w.cell? ⟨b,2,none⟩=some x2/\w.cell? ⟨b,3,none⟩=some x3/\w.cell? ⟨b,4,none⟩=some x4/\w.cell? ⟨b,5,none⟩=some x5/\w.cell? ⟨b,6,none⟩=some x6/\w.cell? ⟨b,7,none⟩=some x7/\w.cell? ⟨b,8,none⟩=some x8)/\
  (w.frozen? ⟨b,0,none⟩=false/\w.frozen? ⟨b,1,none⟩=false/\w.frozen? ⟨b,2,none⟩=false/\w.frozen? ⟨b,3,none⟩=false/\w.frozen? ⟨b,4,none⟩=false/\w.frozen? ⟨b,5,none⟩=false/\w.frozen? ⟨b,6,none⟩=false/\w.frozen? ⟨b,7,none⟩=false/\w.frozen? ⟨b,8,none⟩=false):=
 ⟨⟨(bx h 0 rfl).1,(bx h 1 rfl).1,(bx h 2 rfl).1,(bx h 3 rfl).1,(bx h 4 rfl).1,(bx h 5 rfl).1,(bx h 6 rfl).1,(bx h 7 rfl).1,(bx h 8 rfl).1⟩,(bx h 0 (u:=x0) rfl).2,(bx h 1 (u:=x1) rfl).2,(bx h 2 (u:=x2) rfl).2,(bx h 3 (u:=x3) rfl).2,(bx h 4 (u:=x4) rfl).2,(bx h 5 (u:=x5) rfl).2,(bx h 6 (u:=x6) rfl).2,(bx h 7 (u:=x7) rfl).2,(bx h 8 (u:=x8) rfl).2⟩
abbrev dN:Array Value:=#[.string ⟨#[]⟩,.slice none 0 0,.slice none 0 0,.slice none 0 0,.slice none 0 0,.bool false,.slice none 0 0,.slice none 0 0,.slice none 0 0]
def set9(w:World)(b:Nat)(x0 x1 x2 x3 x4 x5 x6 x7 x8:Value):World:=
 ((((((((w.setCell ⟨b,0,none⟩ x0).setCell ⟨b,1,none⟩ x1).setCell ⟨b,2,none⟩ x2).setCell ⟨b,3,none⟩ x3).setCell ⟨b,4,none⟩ x4).setCell ⟨b,5,none⟩ x5).setCell ⟨b,6,none⟩ x6).setCell ⟨b,7,none⟩ x7).setCell ⟨b,8,none⟩ x8
theorem oQ(w:World)(b:Nat)(x0 x1 x2 x3 x4 x5 x6 x7 x8:Value):Off (fun k=>k=b) w (set9 w b x0 x1 x2 x3 x4 x5 x6 x7 x8):=by
 unfold set9;exact(Off.refl _ _).one.one.one.one.one.one.one.one.one
section
variable {l:List Tok} {F q:Nat}
theorem uses_stop{out:List ByteArray}(h:isP l q kUse=false):iJ l (F+1) out q=.ok (out,q):=by rw[iJ,if_neg (by rw[h];simp)]
theorem uses_step{out:List ByteArray}(h:isP l q kUse=true):iJ l (F+1) out q=(gO l q out.length 12).bnd fun _ _=>(gZ l (q+1) (fun s=>out.any fun x=>decide (x=s))).bnd fun s j=>(dB l j kN).bnd fun _ k=>iJ l F (out++[s]) k:=by rw[iJ,if_pos h]
theorem vars_stop{vs:List Fld}{es:List Xp}(h:isP l q kVar=false):jC l (F+1) vs es q=.ok ((vs,es),q):=by rw[jC,if_neg (by rw[h];simp)]
theorem vars_step{vs:List Fld}{es:List Xp}(h:isP l q kVar=true):jC l (F+1) vs es q=(gO l q vs.length 8).bnd fun _ _=>(gZ l (q+1) (fun s=>vs.any fun x=>decide (x.1=s))).bnd fun s j=>(kI l j).bnd fun t j2=>(lZ l j2 (decide (bU t<=4)) kEq).bnd fun _ j3=>(lW l j3 kN).bnd fun e k=>jC l F (vs++[(s,t)]) (es++[e]) k:=by rw[jC,if_pos h]
theorem funcs_stop{fs:List Fnc}(h:(isP l q kPub||isP l q kFn)=false):fY l (F+1) fs q=.ok (fs,q):=by rw[fY,if_neg (by rw[h];simp)]
theorem funcs_step{fs:List Fnc}(h:(isP l q kPub||isP l q kFn)=true):fY l (F+1) fs q=(gO l q fs.length 30).bnd fun _ _=>(mU l q (fun s=>fs.any fun x=>decide (x.name=s))).bnd fun x k=>fY l F (fs++[x]) k:=by rw[fY,if_pos h]
theorem any_pushS(l:List ByteArray)(a:ByteArray):(dY fun z=>decide (z=a)||l.any fun x=>decide (x=z))=dY fun s=>(l++[a]).any fun x=>decide (x=s):=by
 exact TX
theorem any_pushF(l:List Fnc)(f:Fnc):(dY fun z=>decide (z=f.name)||l.any fun x=>decide (x.name=z))=dY fun s=>(l++[f]).any fun x=>decide (x.name=s):=by
 refine congrArg dY (funext fun z=>?_);simp only[List.any_append,List.any_cons,List.any_nil,Bool.or_false];rw[Bool.or_comm];by_cases h:f.name=z
 ·subst h;rfl
 ·have h2:¬z=f.name:=fun e=>h e.symm;simp only[decide_eq_false h,decide_eq_false h2]
end
structure hU (w:World) (ka na:Nat) (fa:ByteArray->Bool) (kb nb:Nat) (fb:ByteArray->Bool) (kc nc:Nat) (fc:ByteArray->Bool):Prop where
 a:aW eI dD w ka na (dY fa)
 b:aW eI dD w kb nb (dY fb)
 c:aW eI dD w kc nc (dY fc)
section
variable {w w':World} {ka na kb nb kc nc na' nb' nc':Nat} {fa fb fc fa' fb' fc':ByteArray->Bool} {S:Nat->Prop}
theorem hU.off(h:hU w ka na fa kb nb fb kc nc fc)(ho:Off S w w')(hS:¬S ka/\¬S kb/\¬S kc):hU w' ka na fa kb nb fb kc nc fc:=
 ⟨h.a.of_block (ho.block _ h.a.lt hS.1),h.b.of_block (ho.block _ h.b.lt hS.2.1),h.c.of_block (ho.block _ h.c.lt hS.2.2)⟩
theorem hU.later(h:hU w ka na fa kb nb fb kc nc fc)(hb:Below w.heap.size w w'):hU w' ka na fa kb nb fb kc nc fc:=⟨h.a.later hb,h.b.later hb,h.c.later hb⟩
theorem hU.putA(h:hU w ka na fa kb nb fb kc nc fc)(ho:Off S w w')(hS:¬S kb/\¬S kc)(hm:aW eI dD w' ka na' (dY fa')):hU w' ka na' fa' kb nb fb kc nc fc:=⟨hm,h.b.of_block (ho.block _ h.b.lt hS.1),h.c.of_block (ho.block _ h.c.lt hS.2)⟩
theorem hU.putB(h:hU w ka na fa kb nb fb kc nc fc)(ho:Off S w w')(hS:¬S ka/\¬S kc)(hm:aW eI dD w' kb nb' (dY fb')):hU w' ka na fa kb nb' fb' kc nc fc:=⟨h.a.of_block (ho.block _ h.a.lt hS.1),hm,h.c.of_block (ho.block _ h.c.lt hS.2)⟩
theorem hU.putC(h:hU w ka na fa kb nb fb kc nc fc)(ho:Off S w w')(hS:¬S ka/\¬S kb)(hm:aW eI dD w' kc nc' (dY fc')):hU w' ka na fa kb nb fb kc nc' fc':=⟨h.a.of_block (ho.block _ h.a.lt hS.1),h.b.of_block (ho.block _ h.b.lt hS.2),hm⟩
end
theorem pF{α:Type}{k:Nat}{T T0 Te:TypeId}{zero cells cells':Array Value}{p:Prs}{O S:Nat->Prop}{W qS tE:World}{b5 B q i0 g cap n1 j:Nat}{E:World->Prop}{enc:(Nat->Prop)->World->α->List Value->Prop}{l:List α}{css:List (List Value)}{v:Value}{x:α}{news:List Value}
  (hS:Mk T zero p O S W b5 cells E q qS) (hW:p.At W i0) (hb:b5<B) (hG:Gro k Te enc B l css v qS) (he:eD enc) (hx:enc (lC B v) qS x news) (hk:news.length=k) (hE:dK (fun b=>B<=b) E)
  (pP:tE.ownsRow B Te k (.slice (some ⟨g,0,none⟩) n1 cap) n1 (css.flatten++news)) (hn:n1=l.length+1) (pO:(qS.alloc (.cells news.toArray T0)).grownBy tE v.ownBlock) (qA:v.ownBlock=some g\/g=qS.heap.size+1) (hc:cells.setIfInBounds j (.slice (some ⟨g,0,none⟩) n1 cap)=cells'):
  tE.heap[b5]? =some (.cells cells T)/\Mk T zero p O S W b5 cells' E q (tE.setCell ⟨b5,j,none⟩ (.slice (some ⟨g,0,none⟩) n1 cap))/\Gro k Te enc B (l++[x]) (css++[news]) (.slice (some ⟨g,0,none⟩) n1 cap) (tE.setCell ⟨b5,j,none⟩ (.slice (some ⟨g,0,none⟩) n1 cap))/\
  Off (fun b=>B<=b\/b=b5) qS (tE.setCell ⟨b5,j,none⟩ (.slice (some ⟨g,0,none⟩) n1 cap)):=by
 subst hn;have rZ:=aA qS (.cells news.toArray T0);have hG9:=hG.later he rZ;have pT:=hG9.lt;have hz:(qS.alloc (.cells news.toArray T0)).heap.size=qS.heap.size+1:=VL;have oG:Off (fun b=>B<=b) qS tE:=(Off.of_below rZ).trans ⟨pO.os,pO.tape,pO.output,pO.size,fun b hb hn=>pO.block b hb (fun e=>hn (pT b e.symm).1)⟩;have wV:=hG9.added he (he _ _ _ _ _ _ (bM.later rZ) hx) hk pP pO (by rw[hz];exact qA);have D3:=hS.above hW hb oG hE;have DD:Off (fun b=>b=b5) tE (tE.setCell ⟨b5,j,none⟩ (.slice (some ⟨g,0,none⟩) (l.length+1) cap)):=Off.setCell (S:=fun b=>b=b5) tE rfl;exact⟨D3.loc,D3.put hW DD (by rw[aO D3.loc,hc]),wV.stays he (cZ.of_off DD fun b pR=>.inl YJ),(oG.mono fun b hb=>.inl hb).trans (DD.mono fun b hb=>.inr hb)⟩
theorem grow_pair{α β:Type}{k k2:Nat}{T T0 Te Te2:TypeId}{zero cells cells':Array Value}{p:Prs}{O S:Nat->Prop}{W qS tE:World}{b5 B q i0 g cap n1 j:Nat}{E:World->Prop}{enc:(Nat->Prop)->World->α->List Value->Prop}{enc2:(Nat->Prop)->World->β->List Value->Prop}{l:List α}{l2:List β}{css css2:List (List Value)}{v v2:Value}{x:α}{news:List Value}
  (hS:Mk T zero p O S W b5 cells E q qS) (hW:p.At W i0) (hb:b5<B) (hP:Pair k Te enc k2 Te2 enc2 B l css v l2 css2 v2 qS) (he:eD enc) (xY:eD enc2) (hx:encA v2.ownBlock enc (lC B v) qS x news) (hk:news.length=k) (hE:dK (fun b=>B<=b) E)
  (pP:tE.ownsRow B Te k (.slice (some ⟨g,0,none⟩) n1 cap) n1 (css.flatten++news)) (hn:n1=l.length+1) (pO:(qS.alloc (.cells news.toArray T0)).grownBy tE v.ownBlock) (qA:v.ownBlock=some g\/g=qS.heap.size+1) (hc:cells.setIfInBounds j (.slice (some ⟨g,0,none⟩) n1 cap)=cells'):
  tE.heap[b5]? =some (.cells cells T)/\Mk T zero p O S W b5 cells' E q (tE.setCell ⟨b5,j,none⟩ (.slice (some ⟨g,0,none⟩) n1 cap))/\Pair k Te enc k2 Te2 enc2 B (l++[x]) (css++[news]) (.slice (some ⟨g,0,none⟩) n1 cap) l2 css2 v2 (tE.setCell ⟨b5,j,none⟩ (.slice (some ⟨g,0,none⟩) n1 cap))/\
  Off (fun b=>B<=b\/b=b5) qS (tE.setCell ⟨b5,j,none⟩ (.slice (some ⟨g,0,none⟩) n1 cap)):=by
 have rZ:=aA qS (.cells news.toArray T0);have hP9:=hP.stays he xY (.of_below rZ);have pT:=hP9.a.lt;have hz:(qS.alloc (.cells news.toArray T0)).heap.size=qS.heap.size+1:=VL;have oG:Off (fun b=>B<=b) qS tE:=(Off.of_below rZ).trans ⟨pO.os,pO.tape,pO.output,pO.size,fun b hb hn=>pO.block b hb (fun e=>hn (pT b e.symm).1)⟩;have hP13:=hP9.add he xY (encA_ok _ he _ _ _ _ _ _ (bM.later rZ) hx) hk pP hn pO (by rw[hz];exact qA);have D3:=hS.above hW hb oG hE;have DD:Off (fun b=>b=b5) tE (tE.setCell ⟨b5,j,none⟩ (.slice (some ⟨g,0,none⟩) n1 cap)):=Off.setCell (S:=fun b=>b=b5) tE rfl;exact⟨D3.loc,D3.put hW DD (by rw[aO D3.loc,hc]),hP13.stays he xY (cZ.of_off DD fun b pR=>.inl YJ),(oG.mono fun b hb=>.inl hb).trans (DD.mono fun b hb=>.inr hb)⟩
theorem fresh_off{α:Type}{enc:(Nat->Prop)->World->α->List Value->Prop}(he:eD enc){B C:Nat}{w:World}{v:Value}{x:α}{cs:List Value}(h:enc (bD C) w x cs)(hB:B<=C)(hv:∀b,v.ownBlock=some b->b<C):enc (lC B v) w x cs:=
 he.wide h fun b hb _=>⟨by have hb:C<=b:=hb;omega,fun e=>by have hb:C<=b:=hb;have:=hv b e;omega⟩
theorem fresh_offA{α:Type}{enc:(Nat->Prop)->World->α->List Value->Prop}(he:eD enc){B C:Nat}{w:World}{v v2:Value}{x:α}{cs:List Value}(h:enc (bD C) w x cs)(hB:B<=C)(hv:∀b,v.ownBlock=some b->b<C)(LB:∀b,v2.ownBlock=some b->b<C):encA v2.ownBlock enc (lC B v) w x cs:=
 he.wide h fun b hb _=>⟨⟨by have hb:C<=b:=hb;omega,fun e=>by have hb:C<=b:=hb;have:=hv b e;omega⟩,fun e=>by have hb:C<=b:=hb;have:=LB b e;omega⟩
section
variable {l:List Tok}
theorem fieldsFrom_len{most:Nat}:∀(F:Nat)(fs:List Fld)(i:Nat)(r:List Fld)(j:Nat),fs.length<=most->dW l most F fs i=.ok (r,j)->r.length<=most
 |0,fs,i,r,j,hl,h=>by unfold dW at h;cases h;exact hl
 |F+1,fs,i,r,j,hl,h=>by
  cases hq:cY l i with
  |false=>rw[oA hq] at h;cases h
  |true=>
   by_cases hm:fs.length<most
   ·rw[jZ hq hm] at h;obtain⟨s,j1,-,h⟩:=PR.of_bnd h;obtain⟨t,j2,-,h⟩:=PR.of_bnd h;obtain⟨q,j3,-,h⟩:=PR.of_bnd h;split at h
    ·cases h;simp;omega
    ·exact fieldsFrom_len F _ _ r j VZ h
   ·rw[fieldsFrom_full hq hm] at h;cases h
theorem fieldsP_len{most i j:Nat}{r:List Fld}(h:jY l most i=.ok (r,j)):r.length<=most:=by
 unfold jY at h;obtain⟨_,j1,-,h⟩:=PR.of_bnd h;split at h
 ·cases h;simp
 ·exact fieldsFrom_len _ _ _ _ _ VL h
theorem moveP_no{n i:Nat}(h:isP l i kMove=false):moveP l n i=.ok ((false,[],[],[]),i):=by unfold moveP;rw[if_neg (by rw[h];simp)]
theorem moveP_yes{n i:Nat}(h:isP l i kMove=true):moveP l n i=(jY l 8 (i+1)).bnd fun old j=>(dB l j kForward).bnd fun _ j2=>(iD l n j2 kBack).bnd fun fw j3=>(iD l old.length j3 kN).bnd fun bk k=>.ok ((true,old,fw,bk),k):=by unfold moveP;rw[if_pos h]
end
def modK4(l:List Tok)(name:ByteArray)(us:List ByteArray)(ve:List Fld×List Xp)(fs:List Fnc)(i6:Nat):PR Mdl:=(moveP l ve.1.length i6).bnd fun mv i7=>if(aH l i7).kind=3 then .ok (⟨name,us,ve.1,ve.2,fs,mv.1,mv.2.1,mv.2.2.1,mv.2.2.2⟩,i7) else jW l i7 11
def modK3(l:List Tok)(name:ByteArray)(us:List ByteArray)(ve:List Fld×List Xp)(i5:Nat):PR Mdl:=(fY l (l.length+1) [] i5).bnd fun fs i6=>modK4 l name us ve fs i6
def modK2(l:List Tok)(name:ByteArray)(us:List ByteArray)(i4:Nat):PR Mdl:=(jC l (l.length+1) [] [] i4).bnd fun ve i5=>modK3 l name us ve i5
def modK5(l:List Tok)(name:ByteArray)(us:List ByteArray)(ve:List Fld×List Xp)(fs:List Fnc)(mv:Bool×List Fld×List Xp×List Xp)(i7:Nat):PR Mdl:=if(aH l i7).kind=3 then .ok (⟨name,us,ve.1,ve.2,fs,mv.1,mv.2.1,mv.2.2.1,mv.2.2.2⟩,i7) else jW l i7 11
theorem modK4_eq(l:List Tok)(name:ByteArray)(us:List ByteArray)(ve:List Fld×List Xp)(fs:List Fnc)(i:Nat):modK4 l name us ve fs i=(moveP l ve.1.length i).bnd fun mv i7=>modK5 l name us ve fs mv i7:=rfl
theorem modK4_yes{l:List Tok}{name:ByteArray}{us:List ByteArray}{vs:List Fld}{es:List Xp}{fs:List Fnc}{i:Nat}(h:isP l i kMove=true):modK4 l name us (vs,es) fs i=((jY l 8 (i+1)).bnd fun old j=>(dB l j kForward).bnd fun _ j2=>(iD l vs.length j2 kBack).bnd fun fw j3=>(iD l old.length j3 kN).bnd fun bk k=>.ok ((true,old,fw,bk),k)).bnd fun mv i7=>modK5 l name us (vs,es) fs mv i7:=by
 rw[modK4_eq,moveP_yes h]
theorem moduleP_eq(l:List Tok):gC l=(dB l 0 kModule).bnd fun _ i=>(fP l i).bnd fun name i2=>(dB l i2 kN).bnd fun _ i3=>(iJ l (l.length+1) [] i3).bnd fun us i4=>modK2 l name us i4:=rfl
theorem fnInfo:(Tryz.prog.info? 179).map (fun i=>(i.zero,i.size,i.bytes))=some (some (.agg #[.string ByteArray.empty,.bool false,.slice none 0 0,.int .i64 0,.slice none 0 0,.int .i64 0,.int .i64 0,.int .i64 0,.string ByteArray.empty,.string ByteArray.empty,.slice none 0 0,.slice none 0 0]),12,184):=VH
end Go.Proofs.YtacgopankhpnbaaGreatDoor
