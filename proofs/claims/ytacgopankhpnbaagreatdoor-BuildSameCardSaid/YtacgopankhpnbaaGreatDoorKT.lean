/- Texts of this seat, joined. -/
import Derived.Test.YtacgopankhpnbaaGreatDoorKS
namespace Go.Proofs.YtacgopankhpnbaaGreatDoor
open Go.RowKit
def bX(N:Nat->Prop)(w:World)(N':Nat->Prop)(w':World):Prop:=
 ∀b,N b->b<w.heap.size->N' b/\∀o v,w.cell? ⟨b,o,none⟩=some v->w'.cell? ⟨b,o,none⟩=some v
theorem bX.later{N:Nat->Prop}{w w':World}(hb:Below w.heap.size w w'):bX N w N w':=fun _ h _=>⟨h,fun _ _ h=>aC hb h⟩
def eU{α:Type}(enc:(Nat->Prop)->World->α->List Value->Prop):Prop:=∀N w N' w' x cs,bX N w N' w'->enc N w x cs->enc N' w' x cs
def aK{α:Type}(k:Nat)(enc:(Nat->Prop)->World->α->List Value->Prop)(N:Nat->Prop)(w:World)(v:Value)(l:List α):Prop:=
 ∃a c,v=.slice a l.length c/\l.length<=c/\c<=9223372036854775807/\
  (l≠[]->∃b o,a=some ⟨b,o,none⟩/\N b/\∀i x,l[i]? =some x->∃cs,enc N w x cs/\cs.length=k/\∀j u,cs[j]? =some u->w.cell? ⟨b,o+i*k+j,none⟩=some u)
theorem aK.moves{α:Type}{k:Nat}{enc:(Nat->Prop)->World->α->List Value->Prop}(he:eU enc){N N':Nat->Prop}{w w':World}{v:Value}{l:List α}(hm:bX N w N' w')(hk:0<k)
  (h:aK k enc N w v l):aK k enc N' w' v l:=by
 obtain⟨a,c,hv,h1,h2,h3⟩:=h;refine⟨a,c,hv,h1,h2,fun hne=>?_⟩;obtain⟨b,o,ha,hn,hc⟩:=h3 hne
 have hb:b<w.heap.size:=by
  cases l with
  |nil=>exact absurd rfl hne
  |cons x0 l=>
   exact uC
 obtain⟨hn',hcell⟩:=hm b hn hb;refine⟨b,o,ha,hn',fun i x hx=>?_⟩;obtain⟨cs,e,hl,hj⟩:=hc i x hx;exact⟨cs,he _ _ _ _ _ _ hm e,hl,fun j u hu=>hcell _ _ (hj j u hu)⟩
theorem aK.nil{α:Type}(k:Nat)(enc:(Nat->Prop)->World->α->List Value->Prop)(N:Nat->Prop)(w:World):aK k enc N w (.slice none 0 0) []:=⟨none,0,rfl,vZ,vZ,fun h=>absurd rfl h⟩
theorem aK.cases{α:Type}{k:Nat}{enc:(Nat->Prop)->World->α->List Value->Prop}{N:Nat->Prop}{w:World}{v:Value}{l:List α}(hk:0<k)(h:aK k enc N w v l):
  (l=[]/\∃a c,v=.slice a 0 c)\/(∃b o c,v=.slice (some ⟨b,o,none⟩) l.length c/\0<l.length/\l.length<=c/\c<=9223372036854775807/\b<w.heap.size/\N b/\
   ∀i x,l[i]? =some x->∃cs,enc N w x cs/\cs.length=k/\∀j u,cs[j]? =some u->w.cell? ⟨b,o+i*k+j,none⟩=some u):=by
 obtain⟨a,c,hv,h1,h2,h3⟩:=h
 cases l with
 |nil=>exact .inl ⟨rfl,a,c,hv⟩
 |cons x0 l=>
  obtain⟨b,o,ha,hn,hc⟩:=h3 vZ;refine .inr ⟨b,o,c,by rw[hv,ha],vZ,h1,h2,?_,hn,hc⟩;exact uC
theorem flatten_at{k:Nat}:∀(css:List (List Value)),(∀c,c∈css->c.length=k)->∀i c j,css[i]? =some c->j<k->css.flatten[i*k+j]? =c[j]?
 |[],_,i,c,j,h,_=>yL
 |d::css,hl,0,c,j,h,hj=>by
  simp at h;subst h;have hd:=hl d vZ;rw[List.flatten_cons,Nat.zero_mul,Nat.zero_add,List.getElem?_append_left vT]
 |d::css,hl,i+1,c,j,h,hj=>by
  have hd:=hl d vZ;rw[List.flatten_cons,List.getElem?_append_right (by rw[hd,Nat.succ_mul];omega),hd,show(i+1)*k+j-k=i*k+j by rw[Nat.succ_mul];omega];exact flatten_at css (fun c hc=>hl c (by simp[hc])) i c j xL hj
abbrev bP(B:Nat):Nat->Prop:=fun b=>B<=b
abbrev mK(B:Nat)(v:Value):Nat->Prop:=fun b=>B<=b/\v.ownBlock≠some b
structure Gro {α:Type} (k:Nat) (T:TypeId) (enc:(Nat->Prop)->World->α->List Value->Prop) (B:Nat) (l:List α) (css:List (List Value)) (v:Value) (w:World):Prop where
 own:w.ownsRow B T k v l.length css.flatten
 len:css.length=l.length
 ks:∀c,c∈css->c.length=k
 enc:∀(i:Nat)(x:α)(c:List Value),l[i]? =some x->css[i]? =some c->enc (mK B v) w x c
 big:B<=w.heap.size
section
variable {α:Type} {k:Nat} {T:TypeId} {enc:(Nat->Prop)->World->α->List Value->Prop} {B:Nat} {l:List α} {css:List (List Value)} {v:Value} {w w':World}
theorem Gro.first(k:Nat)(T:TypeId)(enc:(Nat->Prop)->World->α->List Value->Prop)(w:World):Gro k T enc w.heap.size [] [] (.slice none 0 0) w:=
 ⟨World.ownsRow_nil _ _ _ _,rfl,fun c h=>yG,fun i x c h=>yL,Nat.le_refl _⟩
theorem Gro.first_at(k:Nat)(T:TypeId)(enc:(Nat->Prop)->World->α->List Value->Prop){w:World}{B:Nat}(h:B<=w.heap.size):Gro k T enc B [] [] (.slice none 0 0) w:=
 ⟨World.ownsRow_nil _ _ _ _,rfl,fun c h=>yG,fun i x c h=>yL,h⟩
def dK(B:Nat)(w w':World):Prop:=w.heap.size<=w'.heap.size/\∀b cs t fr,B<=b->w.heap[b]? =some (.cells cs t fr)->w'.heap[b]? =some (.cells cs t fr)
theorem dK.of_below(hb:Below w.heap.size w w'):dK B w w':=⟨hb.size,fun b _ _ _ _ hc=>(hb.block b (Array.getElem?_eq_some_iff.1 hc).1).trans hc⟩
theorem dK.of_off{S:Nat->Prop}(ho:Off S w w')(hS:∀b,S b->b<B\/dE w b):dK B w w':=⟨ho.size,fun b _ _ _ hB hc=>by
 refine(ho.block b (Array.getElem?_eq_some_iff.1 hc).1 fun hs=>?_).trans hc;rcases hS b hs with h|⟨es,c,h⟩
 ·omega
 ·rw[h] at hc;cases hc⟩
theorem cell_heap{b o:Nat}{u:Value}(h:w.cell? ⟨b,o,none⟩=some u):∃cs t fr,w.heap[b]? =some (.cells cs t fr)/\cs[o]? =some u:=by
 unfold World.cell? at h
 cases hh:w.heap[b]? with
 |none=>simp[hh] at h
 |some ob=>
  cases ob with
  |cells cs t fr=>exact⟨cs,t,fr,rfl,by simpa[hh] using h⟩
  |_=>simp[hh] at h
theorem dK.cell(h:dK B w w'){b o:Nat}{u:Value}(hb:B<=b)(hc:w.cell? ⟨b,o,none⟩=some u):w'.cell? ⟨b,o,none⟩=some u:=by
 obtain⟨cs,t,fr,hh,hu⟩:=cell_heap hc;simp[World.cell?,h.2 b cs t fr hb hh,hu]
theorem dK.moves{N:Nat->Prop}(h:dK B w w')(hN:∀b,N b->B<=b):bX N w N w':=fun b hb _=>⟨hb,fun _ _ hc=>h.cell (hN b hb) hc⟩
theorem Gro.stays(he:eU enc)(h:Gro k T enc B l css v w)(hs:dK B w w'):Gro k T enc B l css v w':=by
 refine⟨?_,h.len,h.ks,fun i x c hx hc=>he _ _ _ _ _ _ (hs.moves fun b hb=>hb.1) (h.enc i x c hx hc),Nat.le_trans h.big hs.1⟩;obtain⟨h1,h2⟩:=h.own;refine⟨h1,?_⟩;rcases h2 with h2|⟨g,cap,cur,hv,hg,hgg,r⟩
 ·exact .inl h2
 ·exact .inr ⟨g,cap,cur,hv,hg,hs.2 _ _ _ _ hg hgg,r⟩
theorem Gro.later(he:eU enc)(h:Gro k T enc B l css v w)(hb:Below w.heap.size w w'):Gro k T enc B l css v w':=h.stays he (.of_below hb)
theorem Gro.added(he:eU enc)(h:Gro k T enc B l css v w){g cap:Nat}{x:α}{news:List Value}(hx:enc (mK B v) w x news)(hk:news.length=k)
  (hown:w'.ownsRow B T k (.slice (some ⟨g,0,none⟩) (l.length+1) cap) (l.length+1) (css.flatten++news)) (hgrow:w.grownBy w' v.ownBlock) (hat:v.ownBlock=some g\/g=w.heap.size):
  Gro k T enc B (l++[x]) (css++[news]) (.slice (some ⟨g,0,none⟩) (l.length+1) cap) w':=by
 have hm:bX (mK B v) w (mK B (.slice (some ⟨g,0,none⟩) (l.length+1) cap)) w':=fun b hb hlt=>by
  refine⟨⟨hb.1,fun e=>?_⟩,fun o u hu=>hgrow.cell hu (fun e=>hb.2 e.symm)⟩;have e2:g=b:=zP;subst e2;rcases hat with h1|h1
  ·exact hb.2 h1
  ·omega
 refine⟨by rw[List.length_append,List.flatten_append];simpa using hown,by simp[h.len],fun c hc=>?_,fun i y c hy hc=>?_,Nat.le_trans h.big hgrow.size⟩
 ·rcases List.mem_append.1 hc with h1|h1
  ·exact h.ks c h1
  ·rw[List.mem_singleton.1 h1];exact hk
 ·by_cases hi:i<l.length
  ·rw[List.getElem?_append_left hi] at hy;rw[List.getElem?_append_left (by rw[h.len];exact hi)] at hc;exact he _ _ _ _ _ _ hm (h.enc i y c hy hc)
  ·rw[List.getElem?_append_right vT] at hy;rw[List.getElem?_append_right (by rw[h.len];omega)] at hc
   have hi0:i-l.length=0:=by
    rcases Nat.eq_zero_or_pos (i-l.length) with h0|h0
    ·exact h0
    ·rw[List.getElem?_eq_none (by rw[List.length_singleton];omega)] at hy;cases hy
   rw[hi0] at hy;rw[h.len,hi0] at hc;cases hy;cases hc;exact he _ _ _ _ _ _ hm hx
theorem Gro.row(he:eU enc)(h:Gro k T enc B l css v w):aK k enc (bP B) w v l:=by
 obtain⟨h1,h2⟩:=h.own;rcases h2 with⟨rfl,h0⟩|⟨g,cap,cur,rfl,hg,hgb,r1,r2,r3,r4⟩
 ·have:=List.eq_nil_of_length_eq_zero h0;subst this;exact aK.nil _ _ _ _
 ·refine⟨_,cap,rfl,r1,r2,fun _=>⟨g,0,rfl,hg,fun i x hx=>?_⟩⟩;have hi:=(List.getElem?_eq_some_iff.1 hx).1;obtain⟨c,hc⟩:∃c,css[i]? =some c:=⟨_,List.getElem?_eq_getElem (by rw[h.len];exact hi)⟩;have hck:=h.ks c (List.mem_of_getElem? hc);refine⟨c,he _ _ _ _ _ _ (fun b hb _=>⟨hb.1,fun _ _ h=>h⟩) (h.enc i x c hx hc),hck,fun j u hu=>?_⟩;have hj:j<k:=by rw[<-hck];exact(List.getElem?_eq_some_iff.1 hu).1
  have hlt:i*k+j<l.length*k:=by
   have:(i+1)*k<=l.length*k:=Nat.mul_le_mul_right _ hi;rw[Nat.succ_mul] at this;omega
  have:=congrArg (fun t:List Value=>t[i*k+j]?) r4;simp only[List.getElem?_take,if_pos hlt,flatten_at css h.ks i c j hc hj,hu] at this;have h2:cur[i*k+j]? =some u:=by simpa using this
  simp[World.cell?,hgb,h2]
theorem Gro.lt(h:Gro k T enc B l css v w):∀b,v.ownBlock=some b->B<=b/\b<w.heap.size:=h.own.lt
theorem Gro.val(h:Gro k T enc B l css v w):v=.slice none 0 0/\l=[]\/∃g cap,v=.slice (some ⟨g,0,none⟩) l.length cap/\B<=g/\g<w.heap.size:=by
 rcases h.own.2 with⟨rfl,h0⟩|⟨g,cap,cur,rfl,hg,hgb,-⟩
 ·exact .inl ⟨rfl,List.eq_nil_of_length_eq_zero h0⟩
 ·exact .inr ⟨g,cap,rfl,hg,(Array.getElem?_eq_some_iff.1 hgb).1⟩
end
def bM(_:Nat->Prop)(_:World)(x:ByteArray)(cs:List Value):Prop:=cs=[.string x]/\x.size<=140737488355328
theorem aV:eU bM:=fun _ _ _ _ _ _ _ h=>h
theorem aK.strs{N:Nat->Prop}{w:World}{v:Value}{l:List ByteArray}(h:aK 1 bM N w v l):Strs w v l:=by
 obtain⟨a,c,hv,h1,h2,h3⟩:=h;refine⟨a,c,hv,h1,h2,fun hne=>?_⟩;obtain⟨b,o,ha,-,hc⟩:=h3 hne;exact⟨b,o,ha,hc⟩
end Go.Proofs.YtacgopankhpnbaaGreatDoor
namespace Go.Proofs.YtacgopankhpnbaaGreatDoor
open Go.RowKit
theorem aK.at{α:Type}{k:Nat}{enc:(Nat->Prop)->World->α->List Value->Prop}{N:Nat->Prop}{w:World}{v:Value}{l:List α}(h:aK k enc N w v l):
  ∃a c,v=.slice a l.length c/\l.length<=c/\c<=9223372036854775807/\∀i x,l[i]? =some x->∃b o,a=some ⟨b,o,none⟩/\N b/\∃cs,enc N w x cs/\cs.length=k/\∀j u,cs[j]? =some u->w.cell? ⟨b,o+i*k+j,none⟩=some u:=by
 obtain⟨a,c,hv,h1,h2,h3⟩:=h;refine⟨a,c,hv,h1,h2,fun i x hx=>?_⟩;obtain⟨b,o,ha,hb,hc⟩:=h3 (fun e=>by rw[e] at hx;simp at hx);exact⟨b,o,ha,hb,hc i x hx⟩
end Go.Proofs.YtacgopankhpnbaaGreatDoor
