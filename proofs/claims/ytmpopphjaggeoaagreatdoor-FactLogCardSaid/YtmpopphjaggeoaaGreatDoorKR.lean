/- Texts of this seat, joined. -/
import Derived.Test.YtmpopphjaggeoaaGreatDoorKQ
import Derived.Laws.EntriesVeiled
set_option linter.unusedVariables false
set_option linter.unusedSimpArgs false
set_option linter.constructorNameAsVariable false
namespace Go.Proofs.YtmpopphjaggeoaaGreatDoor
open Go.RowKit
def fD(w:World)(b:Nat):Prop:=∃es c,w.heap[b]? =some (.map es c)
theorem fD.ne{w:World}{b k o:Nat}{v:Value}(h:fD w b)(hc:w.cell? ⟨k,o,none⟩=some v):k≠b:=by
 rintro rfl;obtain⟨es,c,h1⟩:=h;simp[World.cell?,h1] at hc
theorem fD.cell{w w':World}{b k o:Nat}{v:Value}(h:fD w b)(ho:fM b w w')(hc:w.cell? ⟨k,o,none⟩=some v):w'.cell? ⟨k,o,none⟩=some v:=ho.cell (h.ne hc) hc
theorem fD.box{w w':World}{b k:Nat}{cs:Array Value}{t:TypeId}{fr:Nat×Nat}(h:fD w b)(ho:fM b w w')(hc:w.heap[k]? =some (.cells cs t fr)):w'.heap[k]? =some (.cells cs t fr):=by
 obtain⟨es,c,h1⟩:=h;have kQ:k≠b:=by rintro rfl;rw[h1] at hc;cases hc
 exact(ho.block k (Array.getElem?_eq_some_iff.1 hc).1 kQ).trans hc
theorem only_grown{b:Nat}{w w':World}(h:w.grownBy w' (some b)):fM b w w':=⟨h.os,h.tape,h.output,h.size,fun k hk kQ=>h.block k hk (fun e=>kQ (by cases e;rfl))⟩
theorem aC{a b:World}{k:Nat}{o:Obj}(hb:Below a.heap.size a b)(hk:a.heap[k]? =some o):b.heap[k]? =some o:=(hb.block _ (Array.getElem?_eq_some_iff.1 hk).1).trans hk
structure Off (S:Nat->Prop) (w w':World):Prop where
 os:w'.os=w.os
 tape:w'.tape=w.tape
 output:w'.output=w.output
 size:w.heap.size<=w'.heap.size
 block:∀k,k<w.heap.size->¬S k->w'.heap[k]? =w.heap[k]?
theorem Off.refl(S:Nat->Prop)(w:World):Off S w w:=⟨rfl,rfl,rfl,Nat.le_refl _,fun _ _ _=>rfl⟩
theorem Off.trans{S:Nat->Prop}{u v w:World}(h:Off S u v)(k:Off S v w):Off S u w:=
 ⟨k.os.trans h.os,k.tape.trans h.tape,k.output.trans h.output,Nat.le_trans h.size k.size,fun i hi kQ=>(k.block i (Nat.lt_of_lt_of_le hi h.size) kQ).trans (h.block i hi kQ)⟩
theorem Ba{S:Nat->Prop}{w w':World}(h:Below w.heap.size w w'):Off S w w':=⟨h.os,h.tape,h.output,h.size,fun k hk _=>h.block k hk⟩
theorem Off.of_only{S:Nat->Prop}{b:Nat}{w w':World}(h:fM b w w')(hb:S b):Off S w w':=⟨h.os,h.tape,h.output,h.size,fun k hk hn=>h.block k hk (fun e=>hn (e▸hb))⟩
theorem Off.below{S:Nat->Prop}{u w w':World}{B:Nat}(h:Below B u w)(k:Off S w w')(hb:∀k,S k->B<=k)(hB:B<=w.heap.size):Below B u w':=
 ⟨k.os.trans h.os,k.tape.trans h.tape,k.output.trans h.output,Nat.le_trans h.size k.size,fun i hi=>(k.block i CR (fun hs=>by have:=hb i hs;omega)).trans (h.block i hi)⟩
theorem Off.cell{S:Nat->Prop}{w w':World}(h:Off S w w'){k o:Nat}{v:Value}(hn:¬S k)(hc:w.cell? ⟨k,o,none⟩=some v):w'.cell? ⟨k,o,none⟩=some v:=
 (World.cell?_of_block (w:=w) (h.block k (cV hc) hn)).trans hc
theorem Off.heap{S:Nat->Prop}{w w':World}(h:Off S w w'){k:Nat}{o:Obj}(hn:¬S k)(hc:w.heap[k]? =some o):w'.heap[k]? =some o:=
 (h.block k (Array.getElem?_eq_some_iff.1 hc).1 hn).trans hc
theorem Off.setCell{S:Nat->Prop}{b o:Nat}{v:Value}(w:World)(hb:S b):Off S w (w.setCell ⟨b,o,none⟩ v):=Off.of_only (fM.setCell w) hb
theorem Off.drew{S:Nat->Prop}{u w:World}(h:Off S u w):Off S u w.drew:=⟨h.os,h.tape,h.output,h.size,h.block⟩
theorem set_self{w:World}{g i:Nat}{cs:Array Value}{t:TypeId}{fr:Nat×Nat}(h:w.heap[g]? =some (.cells cs t fr))(v:Value):(w.setCell ⟨g,i,none⟩ v).heap[g]? =some (.cells (cs.setIfInBounds i v) t fr):=by
 simp[World.setCell,Array.getElem?_modify,h]
theorem intInfo:(Tryz.prog.info? 3).map (fun i=>(i.zero,i.size,i.bytes))=some (some (.int .i64 0),1,8):=CQ
theorem BQ{p:Prop}(h:p:=by
 refine⟨⟨hb.1,fun e=>?_⟩,fun o u hu=>iP.cell hu (fun e=>hb.2 e.symm)⟩;have e2:g=b:=by simpa[Value.ownBlock] using e
 subst e2;rcases mM with h1|h1
 ·exact hb.2 h1
 omega):p:=h
theorem B0{p:Prop}(h:p:=by
 rw[List.getElem?_append_left hi] at hy;rw[List.getElem?_append_left (by rw[h.len];exact hi)] at hc
 exact he _ _ _ _ _ _ hm (h.enc i y c hy hc)):p:=h
theorem CH{p:Prop}(h:p:=by
 obtain⟨a,c,hv,h1,h2,h3⟩:=h;refine⟨a,c,hv,h1,h2,fun kQ=>?_⟩;obtain⟨b,o,ha,-,hc⟩:=h3 kQ
 exact⟨b,o,ha,hc⟩):p:=h
def aM(N:Nat->Prop)(w:World)(N':Nat->Prop)(w':World):Prop:=
 ∀b,N b->b<w.heap.size->N' b/\∀o v,w.cell? ⟨b,o,none⟩=some v->w'.cell? ⟨b,o,none⟩=some v
theorem aM.refl(N:Nat->Prop)(w:World):aM N w N w:=fun _ h _=>⟨h,fun _ _ h=>h⟩
theorem aM.later{N:Nat->Prop}{w w':World}(hb:Below w.heap.size w w'):aM N w N w':=fun _ h _=>⟨h,fun _ _ h=>aD hb h⟩
def cF{α:Type}(enc:(Nat->Prop)->World->α->List Value->Prop):Prop:=∀N w N' w' x cs,aM N w N' w'->enc N w x cs->enc N' w' x cs
def aK{α:Type}(k:Nat)(enc:(Nat->Prop)->World->α->List Value->Prop)(N:Nat->Prop)(w:World)(v:Value)(l:List α):Prop:=
 ∃a c,v=.slice a l.length c/\l.length<=c/\c<=9223372036854775807/\
  (l≠[]->∃b o,a=some ⟨b,o,none⟩/\N b/\∀i x,l[i]? =some x->∃cs,enc N w x cs/\cs.length=k/\∀j u,cs[j]? =some u->w.cell? ⟨b,o+i*k+j,none⟩=some u)
theorem aK.moves{α:Type}{k:Nat}{enc:(Nat->Prop)->World->α->List Value->Prop}(he:cF enc){N N':Nat->Prop}{w w':World}{v:Value}{l:List α}(hm:aM N w N' w')(hk:0<k)
  (h:aK k enc N w v l):aK k enc N' w' v l:=by
 obtain⟨a,c,hv,h1,h2,h3⟩:=h;refine⟨a,c,hv,h1,h2,fun kQ=>?_⟩;obtain⟨b,o,ha,hn,hc⟩:=h3 kQ
 have hb:b<w.heap.size:=by
  cases l with
  |nil=>exact absurd rfl kQ
  |cons x0 l=>
   obtain⟨cs,-,hl,hj⟩:=hc 0 x0 rfl;exact BH
 obtain⟨zC,kP⟩:=hm b hn hb;refine⟨b,o,ha,zC,fun i x hx=>?_⟩;obtain⟨cs,e,hl,hj⟩:=hc i x hx;exact⟨cs,he _ _ _ _ _ _ hm e,hl,fun j u hu=>kP _ _ (hj j u hu)⟩
theorem aK.nil{α:Type}(k:Nat)(enc:(Nat->Prop)->World->α->List Value->Prop)(N:Nat->Prop)(w:World):aK k enc N w (.slice none 0 0) []:=⟨none,0,rfl,C0,C0,fun h=>absurd rfl h⟩
theorem aK.cases{α:Type}{k:Nat}{enc:(Nat->Prop)->World->α->List Value->Prop}{N:Nat->Prop}{w:World}{v:Value}{l:List α}(hk:0<k)(h:aK k enc N w v l):
  (l=[]/\∃a c,v=.slice a 0 c)\/(∃b o c,v=.slice (some ⟨b,o,none⟩) l.length c/\0<l.length/\l.length<=c/\c<=9223372036854775807/\b<w.heap.size/\N b/\
   ∀i x,l[i]? =some x->∃cs,enc N w x cs/\cs.length=k/\∀j u,cs[j]? =some u->w.cell? ⟨b,o+i*k+j,none⟩=some u):=by
 obtain⟨a,c,hv,h1,h2,h3⟩:=h
 cases l with
 |nil=>exact .inl ⟨rfl,a,c,hv⟩
 |cons x0 l=>
  obtain⟨b,o,ha,hn,hc⟩:=h3 C0;refine .inr ⟨b,o,c,by rw[hv,ha],C0,h1,h2,?_,hn,hc⟩;obtain⟨cs,-,hl,hj⟩:=hc 0 x0 rfl;exact BH
theorem gT{k:Nat}:∀(css:List (List Value)),(∀c,c∈css->c.length=k)->∀i c j,css[i]? =some c->j<k->css.flatten[i*k+j]? =c[j]?
 |[],_,i,c,j,h,_=>EY
 |d::css,hl,0,c,j,h,hj=>by
  simp at h;subst h;have hd:=hl d C0;rw[List.flatten_cons,Nat.zero_mul,Nat.zero_add,List.getElem?_append_left CR]
 |d::css,hl,i+1,c,j,h,hj=>by
  have hd:=hl d C0;rw[List.flatten_cons,List.getElem?_append_right (by rw[hd,Nat.succ_mul];omega),hd,show(i+1)*k+j-k=i*k+j by rw[Nat.succ_mul];omega];exact gT css (fun c hc=>hl c (by simp[hc])) i c j D5 hj
abbrev cP(B:Nat):Nat->Prop:=fun b=>B<=b
abbrev offN(B:Nat)(v:Value):Nat->Prop:=fun b=>B<=b/\v.ownBlock≠some b
structure Gro {α:Type} (k:Nat) (T:TypeId) (enc:(Nat->Prop)->World->α->List Value->Prop) (B:Nat) (l:List α) (css:List (List Value)) (v:Value) (w:World):Prop where
 own:w.ownsRow B T k v l.length css.flatten
 len:css.length=l.length
 ks:∀c,c∈css->c.length=k
 enc:∀(i:Nat)(x:α)(c:List Value),l[i]? =some x->css[i]? =some c->enc (offN B v) w x c
 big:B<=w.heap.size
section
variable {α:Type} {k:Nat} {T:TypeId} {enc:(Nat->Prop)->World->α->List Value->Prop} {B:Nat} {l:List α} {css:List (List Value)} {v:Value} {w w':World}
theorem Gro.first(k:Nat)(T:TypeId)(enc:(Nat->Prop)->World->α->List Value->Prop)(w:World):Gro k T enc w.heap.size [] [] (.slice none 0 0) w:=
 ⟨World.ownsRow_nil _ _ _ _,rfl,fun c h=>D3,fun i x c h=>EY,Nat.le_refl _⟩
theorem Gro.first_at(k:Nat)(T:TypeId)(enc:(Nat->Prop)->World->α->List Value->Prop){w:World}{B:Nat}(h:B<=w.heap.size):Gro k T enc B [] [] (.slice none 0 0) w:=
 ⟨World.ownsRow_nil _ _ _ _,rfl,fun c h=>D3,fun i x c h=>EY,h⟩
def cJ(B:Nat)(w w':World):Prop:=w.heap.size<=w'.heap.size/\∀b cs t fr,B<=b->w.heap[b]? =some (.cells cs t fr)->w'.heap[b]? =some (.cells cs t fr)
theorem cJ.refl(B:Nat)(w:World):cJ B w w:=⟨Nat.le_refl _,fun _ _ _ _ _ h=>h⟩
theorem cJ.trans{w'':World}(h:cJ B w w')(k:cJ B w' w''):cJ B w w'':=⟨Nat.le_trans h.1 k.1,fun b _ _ _ hb hc=>k.2 b _ _ _ hb (h.2 b _ _ _ hb hc)⟩
theorem cJ.of_below(hb:Below w.heap.size w w'):cJ B w w':=⟨hb.size,fun b _ _ _ _ hc=>(hb.block b (Array.getElem?_eq_some_iff.1 hc).1).trans hc⟩
theorem cJ.of_off{S:Nat->Prop}(ho:Off S w w')(hS:∀b,S b->b<B\/fD w b):cJ B w w':=⟨ho.size,fun b _ _ _ hB hc=>by
 refine(ho.block b (Array.getElem?_eq_some_iff.1 hc).1 fun hs=>?_).trans hc;rcases hS b hs with h|⟨es,c,h⟩
 ·omega
 rw[h] at hc;cases hc⟩
theorem cell_heap{b o:Nat}{u:Value}(h:w.cell? ⟨b,o,none⟩=some u):∃cs t fr,w.heap[b]? =some (.cells cs t fr)/\cs[o]? =some u:=by
 unfold World.cell? at h
 cases hh:w.heap[b]? with
 |none=>simp[hh] at h
 |some ob=>
  cases ob with
  |cells cs t fr=>exact⟨cs,t,fr,rfl,by simpa[hh] using h⟩
  |_=>simp[hh] at h
theorem cJ.cell(h:cJ B w w'){b o:Nat}{u:Value}(hb:B<=b)(hc:w.cell? ⟨b,o,none⟩=some u):w'.cell? ⟨b,o,none⟩=some u:=by
 obtain⟨cs,t,fr,hh,hu⟩:=cell_heap hc;simp[World.cell?,h.2 b cs t fr hb hh,hu]
theorem cJ.moves{N:Nat->Prop}(h:cJ B w w')(hN:∀b,N b->B<=b):aM N w N w':=fun b hb _=>⟨hb,fun _ _ hc=>h.cell (hN b hb) hc⟩
theorem cJ.mono{B':Nat}(h:cJ B w w')(hB:B<=B'):cJ B' w w':=⟨h.1,fun b _ _ _ hb hc=>h.2 b _ _ _ (Nat.le_trans hB hb) hc⟩
theorem Gro.stays(he:cF enc)(h:Gro k T enc B l css v w)(hs:cJ B w w'):Gro k T enc B l css v w':=by
 refine⟨?_,h.len,h.ks,fun i x c hx hc=>he _ _ _ _ _ _ (hs.moves fun b hb=>hb.1) (h.enc i x c hx hc),Nat.le_trans h.big hs.1⟩;obtain⟨h1,h2⟩:=h.own;refine⟨h1,?_⟩;rcases h2 with h2|⟨g,cap,cur,hv,hg,qS,r⟩
 ·exact .inl h2
 exact .inr ⟨g,cap,cur,hv,hg,hs.2 _ _ _ _ hg qS,r⟩
theorem Gro.later(he:cF enc)(h:Gro k T enc B l css v w)(hb:Below w.heap.size w w'):Gro k T enc B l css v w':=h.stays he (.of_below hb)
theorem Gro.added(he:cF enc)(h:Gro k T enc B l css v w){g cap:Nat}{x:α}{news:List Value}(hx:enc (offN B v) w x news)(hk:news.length=k)
  (jY:w'.ownsRow B T k (.slice (some ⟨g,0,none⟩) (l.length+1) cap) (l.length+1) (css.flatten++news)) (iP:w.grownBy w' v.ownBlock) (mM:v.ownBlock=some g\/g=w.heap.size):
  Gro k T enc B (l++[x]) (css++[news]) (.slice (some ⟨g,0,none⟩) (l.length+1) cap) w':=by
 have hm:aM (offN B v) w (offN B (.slice (some ⟨g,0,none⟩) (l.length+1) cap)) w':=fun b hb jM=>by
  exact BQ
 refine⟨by rw[List.length_append,List.flatten_append];simpa using jY,by simp[h.len],fun c hc=>?_,fun i y c hy hc=>?_,Nat.le_trans h.big iP.size⟩
 ·rcases List.mem_append.1 hc with h1|h1
  ·exact h.ks c h1
  rw[List.mem_singleton.1 h1];exact hk
 by_cases hi:i<l.length
 ·exact B0
 rw[List.getElem?_append_right CR] at hy;rw[List.getElem?_append_right (by rw[h.len];omega)] at hc
 have oN:i-l.length=0:=by
  rcases Nat.eq_zero_or_pos (i-l.length) with h0|h0
  ·exact h0
  rw[List.getElem?_eq_none (by rw[List.length_singleton];omega)] at hy;cases hy
 rw[oN] at hy;rw[h.len,oN] at hc;cases hy;cases hc;exact he _ _ _ _ _ _ hm hx
theorem Gro.row(he:cF enc)(h:Gro k T enc B l css v w):aK k enc (cP B) w v l:=by
 obtain⟨h1,h2⟩:=h.own;rcases h2 with⟨rfl,h0⟩|⟨g,cap,cur,rfl,hg,hgb,r1,r2,r3,r4⟩
 ·have:=List.eq_nil_of_length_eq_zero h0;subst this;exact aK.nil _ _ _ _
 refine⟨_,cap,rfl,r1,r2,fun _=>⟨g,0,rfl,hg,fun i x hx=>?_⟩⟩;have hi:=(Yb.1 hx).1;obtain⟨c,hc⟩:∃c,css[i]? =some c:=⟨_,List.getElem?_eq_getElem (by rw[h.len];exact hi)⟩;have hck:=h.ks c (List.mem_of_getElem? hc);refine⟨c,he _ _ _ _ _ _ (fun b hb _=>⟨hb.1,fun _ _ h=>h⟩) (h.enc i x c hx hc),hck,fun j u hu=>?_⟩;have hj:j<k:=by rw[<-hck];exact(Yb.1 hu).1
 have jM:i*k+j<l.length*k:=by
  have:(i+1)*k<=l.length*k:=Nat.mul_le_mul_right _ hi;rw[Nat.succ_mul] at this;omega
 have:=congrArg (fun t:List Value=>t[i*k+j]?) r4;simp only[List.getElem?_take,if_pos jM,gT css h.ks i c j hc hj,hu] at this;have h2:cur[i*k+j]? =some u:=by simpa using this
 simp[World.cell?,hgb,h2]
theorem Gro.lt(h:Gro k T enc B l css v w):∀b,v.ownBlock=some b->B<=b/\b<w.heap.size:=h.own.lt
theorem Gro.val(h:Gro k T enc B l css v w):v=.slice none 0 0/\l=[]\/∃g cap,v=.slice (some ⟨g,0,none⟩) l.length cap/\B<=g/\g<w.heap.size:=by
 rcases h.own.2 with⟨rfl,h0⟩|⟨g,cap,cur,rfl,hg,hgb,-⟩
 ·exact .inl ⟨rfl,List.eq_nil_of_length_eq_zero h0⟩
 exact .inr ⟨g,cap,rfl,hg,(Array.getElem?_eq_some_iff.1 hgb).1⟩
end
def cD(_:Nat->Prop)(_:World)(x:bA)(cs:List Value):Prop:=cs=[.string x]/\x.size<=140737488355328
theorem aT:cF cD:=fun _ _ _ _ _ _ _ h=>h
theorem aK.strs{N:Nat->Prop}{w:World}{v:Value}{l:List bA}(h:aK 1 cD N w v l):Strs w v l:=by
 exact CH
end Go.Proofs.YtmpopphjaggeoaaGreatDoor
namespace Go.Proofs.YtmpopphjaggeoaaGreatDoor
open Go.RowKit
theorem aK.at{α:Type}{k:Nat}{enc:(Nat->Prop)->World->α->List Value->Prop}{N:Nat->Prop}{w:World}{v:Value}{l:List α}(h:aK k enc N w v l):
  ∃a c,v=.slice a l.length c/\l.length<=c/\c<=9223372036854775807/\∀i x,l[i]? =some x->∃b o,a=some ⟨b,o,none⟩/\N b/\∃cs,enc N w x cs/\cs.length=k/\∀j u,cs[j]? =some u->w.cell? ⟨b,o+i*k+j,none⟩=some u:=by
 obtain⟨a,c,hv,h1,h2,h3⟩:=h;refine⟨a,c,hv,h1,h2,fun i x hx=>?_⟩;obtain⟨b,o,ha,hb,hc⟩:=h3 (fun e=>by rw[e] at hx;simp at hx);exact⟨b,o,ha,hb,hc i x hx⟩
end Go.Proofs.YtmpopphjaggeoaaGreatDoor
