/- Texts of this seat, joined. -/
import Derived.Test.YtiionicikdnnpaaGreatDoorCR
import Derived.Laws.EntriesVeiled
import Derived.Test.YtiionicikdnnpaaGreatDoorLexC
set_option maxHeartbeats 1600000
set_option maxRecDepth 100000
set_option linter.unusedVariables false
set_option linter.unusedSimpArgs false
namespace Go.Proofs.YtiionicikdnnpaaGreatDoor
open Go.RowKit
def gG(w:World)(b:Nat):Prop:=∃es c,w.heap[b]? =some (.map es c)
theorem gG.of{P:Program}{kt et:TypeId}{κ ν:Type}{K:KeyC P kt κ}{V:ValC P et ν}{w:World}{b n:Nat}{m:κ->Option ν}(h:bV K V w b n m):gG w b:=by
 obtain⟨D,⟨es,clock,h1,-⟩,-⟩:=h;exact⟨es,clock,h1⟩
theorem gG.ne{w:World}{b k o:Nat}{v:Value}(h:gG w b)(hc:w.cell? ⟨k,o,none⟩=some v):k≠b:=by
 rintro rfl;obtain⟨es,c,h1⟩:=h;simp[World.cell?,h1] at hc
theorem gG.cell{w w':World}{b k o:Nat}{v:Value}(h:gG w b)(ho:dU b w w')(hc:w.cell? ⟨k,o,none⟩=some v):w'.cell? ⟨k,o,none⟩=some v:=ho.cell (h.ne hc) hc
theorem gG.box{w w':World}{b k:Nat}{cs:Array Value}{t:TypeId}{fr:Nat×Nat}(h:gG w b)(ho:dU b w w')(hc:w.heap[k]? =some (.cells cs t fr)):w'.heap[k]? =some (.cells cs t fr):=by
 obtain⟨es,c,h1⟩:=h;have rO:k≠b:=by rintro rfl;rw[h1] at hc;cases hc
 exact(ho.block k (Array.getElem?_eq_some_iff.1 hc).1 rO).trans hc
theorem Row.onlyMap{α:Type}{k:Nat}{enc:World->α->List Value->Prop}{w w':World}{v:Value}{l:List α}{b:Nat}(hm:gG w b)(ho:dU b w w')
  (he:∀x cs,enc w x cs->enc w' x cs) (h:Row k enc w v l):Row k enc w' v l:=by
 obtain⟨a,c,hv,h1,h2,h3⟩:=h;refine⟨a,c,hv,h1,h2,fun rO=>?_⟩;obtain⟨b,o,ha,hc⟩:=h3 rO;refine⟨b,o,ha,fun i x hx=>?_⟩;obtain⟨cs,e,hl,hj⟩:=hc i x hx;exact⟨cs,he x cs e,hl,fun j u hu=>hm.cell ho (hj j u hu)⟩
theorem nA.onlyMap{w w':World}{v:Value}{l:List Int}{b:Nat}(hm:gG w b)(ho:dU b w w')(h:nA w v l):nA w' v l:=Row.onlyMap hm ho (fun _ _ h=>h) h
theorem Strs.onlyMap{w w':World}{v:Value}{l:List bA}{b:Nat}(hm:gG w b)(ho:dU b w w')(h:Strs w v l):Strs w' v l:=Row.onlyMap hm ho (fun _ _ h=>h) h
theorem only_grown{b:Nat}{w w':World}(h:w.grownBy w' (some b)):dU b w w':=⟨h.os,h.tape,h.output,h.size,fun k hk rO=>h.block k hk (fun e=>rO (by cases e;rfl))⟩
theorem aH{a b:World}{k:Nat}{o:Obj}(hb:Below a.heap.size a b)(hk:a.heap[k]? =some o):b.heap[k]? =some o:=(hb.block _ (Array.getElem?_eq_some_iff.1 hk).1).trans hk
structure Off (S:Nat->Prop) (w w':World):Prop where
 os:w'.os=w.os
 tape:w'.tape=w.tape
 output:w'.output=w.output
 size:w.heap.size<=w'.heap.size
 block:∀k,k<w.heap.size->¬S k->w'.heap[k]? =w.heap[k]?
theorem Off.refl(S:Nat->Prop)(w:World):Off S w w:=⟨rfl,rfl,rfl,Nat.le_refl _,fun _ _ _=>rfl⟩
theorem Off.trans{S:Nat->Prop}{u v w:World}(h:Off S u v)(k:Off S v w):Off S u w:=
 ⟨k.os.trans h.os,k.tape.trans h.tape,k.output.trans h.output,Nat.le_trans h.size k.size,fun i hi rO=>(k.block i (Nat.lt_of_lt_of_le hi h.size) rO).trans (h.block i hi rO)⟩
theorem Ba{S:Nat->Prop}{w w':World}(h:Below w.heap.size w w'):Off S w w':=⟨h.os,h.tape,h.output,h.size,fun k hk _=>h.block k hk⟩
theorem Off.of_only{S:Nat->Prop}{b:Nat}{w w':World}(h:dU b w w')(hb:S b):Off S w w':=⟨h.os,h.tape,h.output,h.size,fun k hk hn=>h.block k hk (fun e=>hn (e▸hb))⟩
theorem Off.below{S:Nat->Prop}{u w w':World}{B:Nat}(h:Below B u w)(k:Off S w w')(hb:∀k,S k->B<=k)(hB:B<=w.heap.size):Below B u w':=
 ⟨k.os.trans h.os,k.tape.trans h.tape,k.output.trans h.output,Nat.le_trans h.size k.size,fun i hi=>(k.block i YM (fun hs=>by have:=hb i hs;omega)).trans (h.block i hi)⟩
theorem Off.cell{S:Nat->Prop}{w w':World}(h:Off S w w'){k o:Nat}{v:Value}(hn:¬S k)(hc:w.cell? ⟨k,o,none⟩=some v):w'.cell? ⟨k,o,none⟩=some v:=
 (World.cell?_of_block (w:=w) (h.block k (dS hc) hn)).trans hc
theorem Off.heap{S:Nat->Prop}{w w':World}(h:Off S w w'){k:Nat}{o:Obj}(hn:¬S k)(hc:w.heap[k]? =some o):w'.heap[k]? =some o:=
 (h.block k (Array.getElem?_eq_some_iff.1 hc).1 hn).trans hc
theorem Off.setCell{S:Nat->Prop}{b o:Nat}{v:Value}(w:World)(hb:S b):Off S w (w.setCell ⟨b,o,none⟩ v):=Off.of_only (dU.setCell w) hb
theorem Off.drew{S:Nat->Prop}{u w:World}(h:Off S u w):Off S u w.drew:=⟨h.os,h.tape,h.output,h.size,h.block⟩
theorem aT{w:World}{g i:Nat}{cs:Array Value}{t:TypeId}{fr:Nat×Nat}(h:w.heap[g]? =some (.cells cs t fr))(v:Value):(w.setCell ⟨g,i,none⟩ v).heap[g]? =some (.cells (cs.setIfInBounds i v) t fr):=by
 exact YA
theorem intInfo:(Tryz.prog.info? 3).map (fun i=>(i.zero,i.size,i.bytes))=some (some (.int .i64 0),1,8):=YN
def bU(N:Nat->Prop)(w:World)(N':Nat->Prop)(w':World):Prop:=
 ∀b,N b->b<w.heap.size->N' b/\∀o v,w.cell? ⟨b,o,none⟩=some v->w'.cell? ⟨b,o,none⟩=some v
theorem bU.refl(N:Nat->Prop)(w:World):bU N w N w:=fun _ h _=>⟨h,fun _ _ h=>h⟩
theorem bU.later{N:Nat->Prop}{w w':World}(hb:Below w.heap.size w w'):bU N w N w':=fun _ h _=>⟨h,fun _ _ h=>aD hb h⟩
def fL{α:Type}(enc:(Nat->Prop)->World->α->List Value->Prop):Prop:=∀N w N' w' x cs,bU N w N' w'->enc N w x cs->enc N' w' x cs
def aO{α:Type}(k:Nat)(enc:(Nat->Prop)->World->α->List Value->Prop)(N:Nat->Prop)(w:World)(v:Value)(l:List α):Prop:=
 ∃a c,v=.slice a l.length c/\l.length<=c/\c<=9223372036854775807/\
  (l≠[]->∃b o,a=some ⟨b,o,none⟩/\N b/\∀i x,l[i]? =some x->∃cs,enc N w x cs/\cs.length=k/\∀j u,cs[j]? =some u->w.cell? ⟨b,o+i*k+j,none⟩=some u)
theorem aO.moves{α:Type}{k:Nat}{enc:(Nat->Prop)->World->α->List Value->Prop}(he:fL enc){N N':Nat->Prop}{w w':World}{v:Value}{l:List α}(hm:bU N w N' w')(hk:0<k)
  (h:aO k enc N w v l):aO k enc N' w' v l:=by
 obtain⟨a,c,hv,h1,h2,h3⟩:=h;refine⟨a,c,hv,h1,h2,fun rO=>?_⟩;obtain⟨b,o,ha,hn,hc⟩:=h3 rO
 have hb:b<w.heap.size:=by
  cases l with
  |nil=>exact absurd rfl rO
  |cons x0 l=>
   exact XB
 obtain⟨hn',uP⟩:=hm b hn hb;refine⟨b,o,ha,hn',fun i x hx=>?_⟩;obtain⟨cs,e,hl,hj⟩:=hc i x hx;exact⟨cs,he _ _ _ _ _ _ hm e,hl,fun j u hu=>uP _ _ (hj j u hu)⟩
theorem aO.nil{α:Type}(k:Nat)(enc:(Nat->Prop)->World->α->List Value->Prop)(N:Nat->Prop)(w:World):aO k enc N w (.slice none 0 0) []:=⟨none,0,rfl,YR,YR,fun h=>absurd rfl h⟩
theorem aO.cases{α:Type}{k:Nat}{enc:(Nat->Prop)->World->α->List Value->Prop}{N:Nat->Prop}{w:World}{v:Value}{l:List α}(hk:0<k)(h:aO k enc N w v l):
  (l=[]/\∃a c,v=.slice a 0 c)\/(∃b o c,v=.slice (some ⟨b,o,none⟩) l.length c/\0<l.length/\l.length<=c/\c<=9223372036854775807/\b<w.heap.size/\N b/\
   ∀i x,l[i]? =some x->∃cs,enc N w x cs/\cs.length=k/\∀j u,cs[j]? =some u->w.cell? ⟨b,o+i*k+j,none⟩=some u):=by
 obtain⟨a,c,hv,h1,h2,h3⟩:=h
 cases l with
 |nil=>exact .inl ⟨rfl,a,c,hv⟩
 |cons x0 l=>
  obtain⟨b,o,ha,hn,hc⟩:=h3 YR;refine .inr ⟨b,o,c,by rw[hv,ha],YR,h1,h2,?_,hn,hc⟩;exact XB
theorem flatten_at{k:Nat}:∀(css:List (List Value)),(∀c,c∈css->c.length=k)->∀i c j,css[i]? =some c->j<k->css.flatten[i*k+j]? =c[j]?
 |[],_,i,c,j,h,_=>Z0
 |d::css,hl,0,c,j,h,hj=>by
  simp at h;subst h;have hd:=hl d YR;rw[List.flatten_cons,Nat.zero_mul,Nat.zero_add,List.getElem?_append_left YM]
 |d::css,hl,i+1,c,j,h,hj=>by
  have hd:=hl d YR;rw[List.flatten_cons,List.getElem?_append_right (by rw[hd,Nat.succ_mul];omega),hd,show(i+1)*k+j-k=i*k+j by rw[Nat.succ_mul];omega];exact flatten_at css (fun c hc=>hl c (by simp[hc])) i c j ZS hj
abbrev bQ(B:Nat):Nat->Prop:=fun b=>B<=b
abbrev mO(B:Nat)(v:Value):Nat->Prop:=fun b=>B<=b/\v.ownBlock≠some b
structure Gro {α:Type} (k:Nat) (T:TypeId) (enc:(Nat->Prop)->World->α->List Value->Prop) (B:Nat) (l:List α) (css:List (List Value)) (v:Value) (w:World):Prop where
 own:w.ownsRow B T k v l.length css.flatten
 len:css.length=l.length
 ks:∀c,c∈css->c.length=k
 enc:∀(i:Nat)(x:α)(c:List Value),l[i]? =some x->css[i]? =some c->enc (mO B v) w x c
 big:B<=w.heap.size
section
variable {α:Type} {k:Nat} {T:TypeId} {enc:(Nat->Prop)->World->α->List Value->Prop} {B:Nat} {l:List α} {css:List (List Value)} {v:Value} {w w':World}
theorem Gro.first(k:Nat)(T:TypeId)(enc:(Nat->Prop)->World->α->List Value->Prop)(w:World):Gro k T enc w.heap.size [] [] (.slice none 0 0) w:=
 ⟨World.ownsRow_nil _ _ _ _,rfl,fun c h=>aAW,fun i x c h=>Z0,Nat.le_refl _⟩
theorem Gro.first_at(k:Nat)(T:TypeId)(enc:(Nat->Prop)->World->α->List Value->Prop){w:World}{B:Nat}(h:B<=w.heap.size):Gro k T enc B [] [] (.slice none 0 0) w:=
 ⟨World.ownsRow_nil _ _ _ _,rfl,fun c h=>aAW,fun i x c h=>Z0,h⟩
def dF(B:Nat)(w w':World):Prop:=w.heap.size<=w'.heap.size/\∀b cs t fr,B<=b->w.heap[b]? =some (.cells cs t fr)->w'.heap[b]? =some (.cells cs t fr)
theorem dF.refl(B:Nat)(w:World):dF B w w:=⟨Nat.le_refl _,fun _ _ _ _ _ h=>h⟩
theorem dF.trans{w'':World}(h:dF B w w')(k:dF B w' w''):dF B w w'':=⟨Nat.le_trans h.1 k.1,fun b _ _ _ hb hc=>k.2 b _ _ _ hb (h.2 b _ _ _ hb hc)⟩
theorem dF.of_below(hb:Below w.heap.size w w'):dF B w w':=⟨hb.size,fun b _ _ _ _ hc=>(hb.block b (Array.getElem?_eq_some_iff.1 hc).1).trans hc⟩
theorem dF.of_off{S:Nat->Prop}(ho:Off S w w')(hS:∀b,S b->b<B\/gG w b):dF B w w':=⟨ho.size,fun b _ _ _ hB hc=>by
 refine(ho.block b (Array.getElem?_eq_some_iff.1 hc).1 fun hs=>?_).trans hc;rcases hS b hs with h|⟨es,c,h⟩
 ·omega
 rw[h] at hc;cases hc⟩
theorem cell_heap{b o:Nat}{u:Value}(h:w.cell? ⟨b,o,none⟩=some u):∃cs t fr,w.heap[b]? =some (.cells cs t fr)/\cs[o]? =some u:=by
 unfold World.cell? at h
 cases hh:w.heap[b]? with
 |none=>simp[hh] at h
 |some ob=>
  cases ob with
  |cells cs t fr=>exact⟨cs,t,fr,rfl,by simpa[hh] using h⟩
  |_=>simp[hh] at h
theorem dF.cell(h:dF B w w'){b o:Nat}{u:Value}(hb:B<=b)(hc:w.cell? ⟨b,o,none⟩=some u):w'.cell? ⟨b,o,none⟩=some u:=by
 obtain⟨cs,t,fr,hh,hu⟩:=cell_heap hc;simp[World.cell?,h.2 b cs t fr hb hh,hu]
theorem dF.moves{N:Nat->Prop}(h:dF B w w')(hN:∀b,N b->B<=b):bU N w N w':=fun b hb _=>⟨hb,fun _ _ hc=>h.cell (hN b hb) hc⟩
theorem dF.mono{B':Nat}(h:dF B w w')(hB:B<=B'):dF B' w w':=⟨h.1,fun b _ _ _ hb hc=>h.2 b _ _ _ (Nat.le_trans hB hb) hc⟩
theorem Gro.stays(he:fL enc)(h:Gro k T enc B l css v w)(hs:dF B w w'):Gro k T enc B l css v w':=by
 refine⟨?_,h.len,h.ks,fun i x c hx hc=>he _ _ _ _ _ _ (hs.moves fun b hb=>hb.1) (h.enc i x c hx hc),Nat.le_trans h.big hs.1⟩;obtain⟨h1,h2⟩:=h.own;refine⟨h1,?_⟩;rcases h2 with h2|⟨g,cap,cur,hv,hg,D9,r⟩
 ·exact .inl h2
 exact .inr ⟨g,cap,cur,hv,hg,hs.2 _ _ _ _ hg D9,r⟩
theorem Gro.later(he:fL enc)(h:Gro k T enc B l css v w)(hb:Below w.heap.size w w'):Gro k T enc B l css v w':=h.stays he (.of_below hb)
theorem Gro.added(he:fL enc)(h:Gro k T enc B l css v w){g cap:Nat}{x:α}{news:List Value}(hx:enc (mO B v) w x news)(hk:news.length=k)
  (rP:w'.ownsRow B T k (.slice (some ⟨g,0,none⟩) (l.length+1) cap) (l.length+1) (css.flatten++news)) (rN:w.grownBy w' v.ownBlock) (sD:v.ownBlock=some g\/g=w.heap.size):
  Gro k T enc B (l++[x]) (css++[news]) (.slice (some ⟨g,0,none⟩) (l.length+1) cap) w':=by
 have hm:bU (mO B v) w (mO B (.slice (some ⟨g,0,none⟩) (l.length+1) cap)) w':=fun b hb rU=>by
  refine⟨⟨hb.1,fun e=>?_⟩,fun o u hu=>rN.cell hu (fun e=>hb.2 e.symm)⟩;have e2:g=b:=aAD;subst e2;rcases sD with h1|h1
  ·exact hb.2 h1
  omega
 refine⟨by rw[List.length_append,List.flatten_append];simpa using rP,by simp[h.len],fun c hc=>?_,fun i y c hy hc=>?_,Nat.le_trans h.big rN.size⟩
 ·rcases List.mem_append.1 hc with h1|h1
  ·exact h.ks c h1
  rw[List.mem_singleton.1 h1];exact hk
 by_cases hi:i<l.length
 ·rw[List.getElem?_append_left hi] at hy;rw[List.getElem?_append_left (by rw[h.len];exact hi)] at hc;exact he _ _ _ _ _ _ hm (h.enc i y c hy hc)
 rw[List.getElem?_append_right YM] at hy;rw[List.getElem?_append_right (by rw[h.len];omega)] at hc
 have xK:i-l.length=0:=by
  rcases Nat.eq_zero_or_pos (i-l.length) with h0|h0
  ·exact h0
  rw[List.getElem?_eq_none (by rw[List.length_singleton];omega)] at hy;cases hy
 rw[xK] at hy;rw[h.len,xK] at hc;cases hy;cases hc;exact he _ _ _ _ _ _ hm hx
theorem Gro.row(he:fL enc)(h:Gro k T enc B l css v w):aO k enc (bQ B) w v l:=by
 obtain⟨h1,h2⟩:=h.own;rcases h2 with⟨rfl,h0⟩|⟨g,cap,cur,rfl,hg,FE,r1,r2,r3,r4⟩
 ·have:=List.eq_nil_of_length_eq_zero h0;subst this;exact aO.nil _ _ _ _
 refine⟨_,cap,rfl,r1,r2,fun _=>⟨g,0,rfl,hg,fun i x hx=>?_⟩⟩;have hi:=(Yb.1 hx).1;obtain⟨c,hc⟩:∃c,css[i]? =some c:=⟨_,List.getElem?_eq_getElem (by rw[h.len];exact hi)⟩;have hck:=h.ks c (List.mem_of_getElem? hc);refine⟨c,he _ _ _ _ _ _ (fun b hb _=>⟨hb.1,fun _ _ h=>h⟩) (h.enc i x c hx hc),hck,fun j u hu=>?_⟩;have hj:j<k:=by rw[<-hck];exact(Yb.1 hu).1
 have rU:i*k+j<l.length*k:=by
  have:(i+1)*k<=l.length*k:=Nat.mul_le_mul_right _ hi;rw[Nat.succ_mul] at this;omega
 have:=congrArg (fun t:List Value=>t[i*k+j]?) r4;simp only[List.getElem?_take,if_pos rU,flatten_at css h.ks i c j hc hj,hu] at this;have h2:cur[i*k+j]? =some u:=by simpa using this
 simp[World.cell?,FE,h2]
theorem Gro.lt(h:Gro k T enc B l css v w):∀b,v.ownBlock=some b->B<=b/\b<w.heap.size:=h.own.lt
theorem Gro.val(h:Gro k T enc B l css v w):v=.slice none 0 0/\l=[]\/∃g cap,v=.slice (some ⟨g,0,none⟩) l.length cap/\B<=g/\g<w.heap.size:=by
 rcases h.own.2 with⟨rfl,h0⟩|⟨g,cap,cur,rfl,hg,FE,-⟩
 ·exact .inl ⟨rfl,List.eq_nil_of_length_eq_zero h0⟩
 exact .inr ⟨g,cap,rfl,hg,(Array.getElem?_eq_some_iff.1 FE).1⟩
end
def dD(_:Nat->Prop)(_:World)(x:bA)(cs:List Value):Prop:=cs=[.string x]/\x.size<=140737488355328
theorem aV:fL dD:=fun _ _ _ _ _ _ _ h=>h
theorem aO.strs{N:Nat->Prop}{w:World}{v:Value}{l:List bA}(h:aO 1 dD N w v l):Strs w v l:=by
 obtain⟨a,c,hv,h1,h2,h3⟩:=h;refine⟨a,c,hv,h1,h2,fun rO=>?_⟩;obtain⟨b,o,ha,-,hc⟩:=h3 rO;exact⟨b,o,ha,hc⟩
end Go.Proofs.YtiionicikdnnpaaGreatDoor
namespace Go.Proofs.YtiionicikdnnpaaGreatDoor
open Go.RowKit
abbrev tokCells(t:Tok):List Value:=[.int .i64 t.kind,.string t.text,.int .i64 t.n,.int .i64 t.pos]
def encTok(_:Nat->Prop)(_:World)(x:Tok)(cs:List Value):Prop:=cs=tokCells x/\x.text.size<=8000
theorem mV:fL encTok:=fun _ _ _ _ _ _ _ h=>h
theorem tokInfo:(Tryz.prog.info? 59).map (fun i=>(i.zero,i.size,i.bytes))=some (some (oBx24 0 ByteArray.empty 0 0),4,40):=YN
structure LexSt (s:bA) (W:World) (i:Nat) (out:List Tok) (css:List (List Value)) (v:Value) (wr:World):Prop where
 acc:Gro 4 59 encTok W.heap.size out css v wr
 below:Below W.heap.size W wr
 len:out.length<=i
 le:i<=s.size
 rest:∃f,gE s (s.size+1) 0 []=gE s (f+1) i out/\s.size<=f+i
 ok:∀t,t∈out->t.kind≠3/\t.text.size<=s.size
def lexV(B:Nat)(s:bA)(r:Except (Int×Int) (List Tok))(e:Ending)(w':World):Prop:=match r with
 | .error x=>e=.returned (.tuple #[.slice none 0 0,.int .i64 x.1,.int .i64 x.2])
 | .ok l=>∃v,e=.returned (.tuple #[v,.int .i64 0,.int .i64 0])/\aO 4 encTok (bQ B) w' v l/\TokOk s l
theorem nextV_err(e:Int):pB (.error e)=.tuple #[tokV 0 ⟨#[]⟩ 0 0,.int .i64 e]:=rfl
theorem nextV_ok(k n:Int)(t:bA):pB (.ok (k,t,n))=.tuple #[tokV k t n 0,.int .i64 0]:=rfl
theorem grown_belowB{u w w':World}{row:Option Nat}(h:Below u.heap.size u w)(hg:w.grownBy w' row)(hr:∀b,row=some b->u.heap.size<=b):Below u.heap.size u w':=
 ⟨hg.os.trans h.os,hg.tape.trans h.tape,hg.output.trans h.output,Nat.le_trans h.size hg.size,fun k hk=>(hg.block k (by have:=h.size;omega) (fun e=>by have:=hr k e.symm;omega)).trans (h.block k hk)⟩
theorem lex_any(s:bA)(w:World)(hs:s.size<=140737488355328)(hg:SignsAt w):
  Calls Tryz.prog 36 #[.string s] w fun e w'=>lexV w.heap.size s (lexL s) e w'/\Below w.heap.size w w':=by
 obtain⟨i0,xK,vA,tF,sY⟩:=info_parts tokInfo;have HG:=zh hg;clear hg;by_cases tQ:(8000:Int)<(s.size:Int)
 ·have HL:Hid (lexL s=.error (0,6)):=zh (by unfold lexL;rw[if_pos YM]);go_enter Tryz.func36,Tryz.ntmps36;go_wp2_with fail;refine bodyPost_ret (v:=.tuple #[.slice none 0 0,.int .i64 0,.int .i64 6]) aAX rfl ⟨?_,Below.refl _ _⟩;rw[HL.out];rfl
 have tK:s.size<=8000:=YM;have HL:Hid (lexL s=gE s (s.size+1) 0 []):=zh (by unfold lexL;rw[if_neg YM]);go_enter Tryz.func36,Tryz.ntmps36;go_wp2_with fail;go_loopw [5,6] (fun v iv wr=>∃(i:Nat)(out:List Tok)(css:List (List Value)),iv=.int .i64 i/\Hid (LexSt s w i out css v wr)) (fun _ iv _=>s.size-(intOf iv).toNat)
 case atStart=>exact⟨0,[],[],rfl,zh ⟨Gro.first _ _ _ _,Below.refl _ _,Nat.le_refl _,Nat.zero_le _,⟨s.size,rfl,YM⟩,fun t h=>aAW⟩⟩
 case round=>
  obtain⟨i,out,css,rfl,HS⟩:=hrel;rename World=>wr
  have hi:i<=s.size:=HS.out.le;obtain⟨f,hf,hfi⟩:=HS.out.rest;have HF:=zh hf;clear hf;have HR:Hid (iF s i=s.extract i s.size):=zh rfl;have hn:=spanN_le dL (iF s i).data.toList;rw[<-jD,lO] at hn;have sA:=zh (span_any 99 dL (iF s i) wr (by rw[lO];omega) enters_blank blank_any);rw[HR.out] at sA;have HE:=zh (fun h=>lexFrom_end (s:=s) (f:=f) (i:=i) (out:=out) h);have vJ:=zh (fun e h hn=>lexFrom_bad (s:=s) (f:=f) (i:=i) (out:=out) (e:=e) h hn);have HOn:=zh (fun k n t h hn=>lexFrom_on (s:=s) (f:=f) (i:=i) (out:=out) (k:=k) (n:=n) (t:=t) h hn);rw[HR.out] at hn HE vJ HOn;generalize dW dL (s.extract i s.size).data.toList=n at hn sA HE vJ HOn;have NO:=HS.out.below.size;by_cases xI:i+n=s.size
  ·have hend2:(i:Int)+(n:Int)=(s.size:Int):=YM;have HEnd:=zh xI;(have zD:out.length<=8000:=by have:=HS.out.len;omega);go_wp2_with(first|(go_at_call 98;refine sA.out.mono ?_;rintro e w' ⟨rfl,rfl⟩)|(at_builtin;refine wpList_append_lies _ rfl _ _ 54 rfl w.heap.size 59 i0 (oBx24 0 ByteArray.empty 0 0) 4 40 Tryz.underlying54 xK vA tF sY rfl YM _ out.length css.flatten ZV (HS.out.acc.own.alloc _) ⟨wr.heap.size,0,none⟩ 1 1 [.int .i64 3,.string ⟨#[]⟩,.int .i64 0,.int .i64 (s.size:Int)] ZV rfl (World.news_of_block (cs:=#[.int .i64 3,.string ⟨#[]⟩,.int .i64 0,.int .i64 (s.size:Int)]) (t:=59) (fr:=(0,0)) (bY wr _)) Y3 YM Y7 YM Y9 (wr.heap.size+1) YR ?_));intro g cap w1 rP rN sD _;have HA:=HS.out.acc.later mV (aA wr (dT 3 ⟨#[]⟩ 0 (s.size:Int)));have yS:=zh ((HA.added mV (x:=⟨3,⟨#[]⟩,0,s.size⟩) ⟨rfl,Nat.zero_le _⟩ rfl rP rN aAm).row mV);have wG:=zh (TokOk.of (s:=s) (out:=out) (p:=s.size) (by have:=HS.out.len;omega) HS.out.ok);have sT:=zh (grown_belowB (aC HS.out.below (aA wr (dT 3 ⟨#[]⟩ 0 (s.size:Int)))) rN (fun b hb=>(HA.lt b hb).1));clear rP rN sD HA;go_wp2_with fail;refine bodyPost_ret (v:=.tuple #[.slice (some ⟨g,0,none⟩) (out.length+1) cap,.int .i64 0,.int .i64 0]) aAX rfl ⟨?_,sT.out⟩;rw[HL.out,HF.out,HE.out HEnd.out];exact⟨_,rfl,yS.out,wG.out⟩
  have hend2:¬(i:Int)+(n:Int)=(s.size:Int):=YM;have HEnd:=zh xI;have rU:i+n<s.size:=YM;have HC:Hid ((i:Int)+(n:Int)=((i+n:Nat):Int)):=zh YM;have vB:0<(iF s (i+n)).size:=by rw[lO];omega
  have HN:=zh (lexnext_any (iF s (i+n)) wr (by rw[lO];omega) vB (HG.out.later HS.out.below));have EU:=zh (fun k t n'=>nextTok_ok (s:=iF s (i+n)) vB (k:=k) (t:=t) (n:=n'));clear vB
  cases hq:fI (iF s (i+n)) with
  |error e0=>
   rw[hq,nextV_err] at HN;rw[show iF s (i+n)=s.extract (i+n) s.size from rfl] at HN;have HQ:=zh (vJ.out e0 xI hq);have EE:=nextTok_err hq;clear hq vJ HOn HE EU;go_wp2_with(first|(go_at_call 98;refine sA.out.mono ?_;rintro e w' ⟨rfl,rfl⟩)|(go_at_call 100;refine HN.out.mono ?_;rintro e w' ⟨rfl,hb⟩));have sT:=zh (aC HS.out.below (aC hb (aA w' (dT 0 ⟨#[]⟩ 0 0))));refine bodyPost_ret (v:=.tuple #[.slice none 0 0,.int .i64 ((i:Int)+(n:Int)),.int .i64 e0]) aAX rfl ⟨?_,sT.out⟩;rw[HL.out,HF.out,HQ.out,HC.out];rfl
  |ok r=>
   obtain⟨k,t,m⟩:=r;rw[hq,nextV_ok] at HN;rw[show iF s (i+n)=s.extract (i+n) s.size from rfl] at HN;have HQ:=zh (HOn.out k m t xI hq);have HT:=zh (EU.out k t m hq);clear hq vJ HOn HE EU;(have ht1:(i:Int)+(n:Int)+(t.size:Int)<=(s.size:Int):=by have:=HT.out.2.2;rw[lO] at this;omega);(have zD:out.length<=8000:=by have:=HS.out.len;omega);go_wp2_with(first|(go_at_call 98;refine sA.out.mono ?_;rintro e w' ⟨rfl,rfl⟩)|(go_at_call 100;refine HN.out.mono ?_;rintro e w1 ⟨rfl,hb⟩;have HA:=zh (HS.out.acc.later mV hb);have QS:=hb.size)|(at_builtin;refine wpList_append_lies _ rfl _ _ 54 rfl w.heap.size 59 i0 (oBx24 0 ByteArray.empty 0 0) 4 40 Tryz.underlying54 xK vA tF sY rfl YM _ out.length css.flatten ZV ((HA.out.own.alloc _).alloc _) ⟨w1.heap.size+1,0,none⟩ 1 1 [.int .i64 k,.string t,.int .i64 m,.int .i64 ((i:Int)+(n:Int))] ZV rfl (World.news_of_block (cs:=#[.int .i64 k,.string t,.int .i64 m,.int .i64 ((i:Int)+(n:Int))]) (t:=59) (fr:=(0,0)) (by simpa using bY (w1.alloc (dT k t m ((i:Int)+(n:Int)))) _)) Y3 YM Y7 YM Y9 (w1.heap.size+1+1) YR ?_));intro g cap w2 rP rN sD _;have CQ:=((HA.out.later mV (aA w1 (dT k t m ((i:Int)+(n:Int))))).later mV (aA _ (dT k t m ((i:Int)+(n:Int)))));(have htx:t.size<=8000:=by have:=HT.out.2.2;rw[lO] at this;omega);have yS:=zh (CQ.added mV (x:=⟨k,t,m,((i+n:Nat):Int)⟩) ⟨by rw[HC.out],htx⟩ rfl rP rN aAm);have sT:=zh (grown_belowB (aC HS.out.below (aC hb (aC (aA w1 (dT k t m ((i:Int)+(n:Int)))) (aA _ (dT k t m ((i:Int)+(n:Int))))))) rN (fun b hb=>(CQ.lt b hb).1))
   have hcT:w2.cell? ⟨w1.heap.size,1,none⟩=some (.string t):=by
    refine rN.cell (aD (aA _ _) (v:=.string t) ?_) (fun e=>by have:=(HA.out.lt _ e.symm).2;simp at this);exact(cell_of_row _ w1.heap.size 1 _ _ _ (bY w1 _)).trans rfl
   clear rP rN sD CQ htx HA HN sA;go_wp2_with fail;go_roundw
   case rel=>
    refine⟨i+n+t.size,out++[⟨k,t,m,((i+n:Nat):Int)⟩],_,YZ,zh ⟨yS.out,sT.out,?_,YM,?_,?_⟩⟩
    ·have h1:=HS.out.len;have h2:=HT.out.2.1;rw[List.length_append,List.length_singleton];omega
    ·obtain⟨f',hf'⟩:∃f',f=f'+1:=⟨f-1,YM⟩;subst hf';refine⟨f',by rw[HF.out,HQ.out],?_⟩;have h2:=HT.out.2.1;omega
    intro x hx;rcases List.mem_append.1 hx with h|h
    ·exact HS.out.ok x h
    rw[List.mem_singleton.1 h];refine⟨HT.out.1,?_⟩;have:=HT.out.2.2;rw[lO] at this;show t.size<=s.size;omega
   case measure=>have h2:=HT.out.2.1;simp[intOf];omega
abbrev tokVal(t:Tok):Value:=tokV t.kind t.text t.n t.pos
structure Prs where
 l:List Tok
 b:Nat
 o:Nat
 c:Nat
 pb:Nat
structure Prs.At (p:Prs) (w:World) (i:Nat):Prop where
 box:w.heap[p.pb]? =some (oBx21 (some ⟨p.b,p.o,none⟩) p.l.length p.c (i:Int))
 toks:∀k t,p.l[k]? =some t->(w.cell? ⟨p.b,p.o+k*4,none⟩=some (.int .i64 t.kind)/\w.cell? ⟨p.b,p.o+k*4+1,none⟩=some (.string t.text)/\w.cell? ⟨p.b,p.o+k*4+2,none⟩=some (.int .i64 t.n)/\w.cell? ⟨p.b,p.o+k*4+3,none⟩=some (.int .i64 t.pos))/\t.text.size<=8000
 ne:p.b≠p.pb
 lt:i<p.l.length
 len:p.l.length<=8001
 cap:p.l.length<=p.c/\p.c<=9223372036854775807
 last:∀k t,p.l[k]? =some t->t.kind≠3->k+1<p.l.length
 glob:eJ w
 spc:Lib.TabIs Tryz.prog w "strings.asciiSpace" .u8 Lib.asciiSpaceTab
 gne:∀k,k<11->k≠p.pb
abbrev Prs.v(p:Prs):Value:=.pointer (some ⟨p.pb,0,none⟩)
abbrev Prs.S(p:Prs):Nat->Prop:=fun k=>k=p.pb
section
variable {p:Prs} {w w':World} {i:Nat}
theorem eJ.off{S:Nat->Prop}(h:eJ w)(ho:Off S w w')(hS:∀k,k<11->¬S k):eJ w':=by
 have hb:=h.big;refine⟨Nat.le_trans h.big ho.size,?_,?_,?_,fun i x hx=>ho.cell (hS _ YM) (h.signs i x hx),fun hw i x hx=>ho.cell (hS _ YM) (h.words hw i x hx)⟩
 ·obtain⟨m,hm⟩:=h.maxLen;exact⟨m,ho.cell (hS _ YM) hm⟩
 ·have:Below 11 w w':=⟨ho.os,ho.tape,ho.output,ho.size,fun k hk=>ho.block k YM (hS k hk)⟩;exact var?_below (g:=5) this YN YM h.pow10
 have:Below 11 w w':=⟨ho.os,ho.tape,ho.output,ho.size,fun k hk=>ho.block k YM (hS k hk)⟩;exact var?_below (g:=1) this YN YM h.spc
theorem spc_off{S:Nat->Prop}(h:Lib.TabIs Tryz.prog w "strings.asciiSpace" .u8 Lib.asciiSpaceTab)(hb:11<=w.heap.size)(ho:Off S w w')(hS:∀k,k<11->¬S k):Lib.TabIs Tryz.prog w' "strings.asciiSpace" .u8 Lib.asciiSpaceTab:=by
 have:Below 11 w w':=⟨ho.os,ho.tape,ho.output,ho.size,fun k hk=>ho.block k YM (hS k hk)⟩;exact var?_below (g:=1) this YN YM h
theorem Prs.At.blt(h:p.At w i):p.pb<w.heap.size:=(Array.getElem?_eq_some_iff.1 h.box).1
theorem Prs.At.tok(h:p.At w i):p.l[i]? =some (aL p.l i):=by
 unfold aL;rw[List.getD_eq_getElem?_getD,List.getElem?_eq_getElem h.lt];rfl
theorem Prs.At.later(h:p.At w i)(hb:Below w.heap.size w w'):p.At w' i:=
 ⟨(hb.block _ h.blt).trans h.box,fun k t hk=>by
  obtain⟨⟨a1,a2,a3,a4⟩,a5⟩:=h.toks k t hk
  exact⟨⟨aD hb a1,aD hb a2,aD hb a3,aD hb a4⟩,a5⟩,h.ne,h.lt,h.len,h.cap,h.last,h.glob.later hb,spc_off h.spc h.glob.big (Ba (S:=fun _=>False) hb) (fun _ _ h=>h),h.gne⟩
theorem Prs.At.off{S:Nat->Prop}(h:p.At w i)(ho:Off S w w')(h1:¬S p.pb)(h2:¬S p.b)(h3:∀k,k<11->¬S k):p.At w' i:=
 ⟨ho.heap h1 h.box,fun k t hk=>by
  obtain⟨⟨a1,a2,a3,a4⟩,a5⟩:=h.toks k t hk
  exact⟨⟨ho.cell h2 a1,ho.cell h2 a2,ho.cell h2 a3,ho.cell h2 a4⟩,a5⟩,h.ne,h.lt,h.len,h.cap,h.last,h.glob.off ho h3,spc_off h.spc h.glob.big ho h3,h.gne⟩
theorem Prs.At.box0(h:p.At w i):w.cell? ⟨p.pb,0,none⟩=some (.slice (some ⟨p.b,p.o,none⟩) p.l.length p.c):=by simp[World.cell?,h.box]
theorem Prs.At.box1(h:p.At w i):w.cell? ⟨p.pb,1,none⟩=some (.int .i64 (i:Int)):=by simp[World.cell?,h.box]
theorem Prs.At.froz(h:p.At w i):w.frozen? ⟨p.pb,1,none⟩=false:=by simp[World.frozen?,h.box]
theorem Prs.At.step(h:p.At w i)(hl:i+1<p.l.length):p.At (w.setCell ⟨p.pb,1,none⟩ (.int .i64 ((i:Int)+1))) (i+1)/\Off p.S w (w.setCell ⟨p.pb,1,none⟩ (.int .i64 ((i:Int)+1))):=by
 have ho:Off p.S w (w.setCell ⟨p.pb,1,none⟩ (.int .i64 ((i:Int)+1))):=Off.setCell w rfl;refine⟨⟨?_,fun k t hk=>?_,h.ne,hl,h.len,h.cap,h.last,h.glob.off ho (fun k hk=>h.gne k hk),spc_off h.spc h.glob.big ho (fun k hk=>h.gne k hk),h.gne⟩,ho⟩
 ·rw[aT h.box,Int.natCast_add,Int.natCast_one];rfl
 obtain⟨⟨a1,a2,a3,a4⟩,a5⟩:=h.toks k t hk;exact⟨⟨ho.cell h.ne a1,ho.cell h.ne a2,ho.cell h.ne a3,ho.cell h.ne a4⟩,a5⟩
end
abbrev faultE(x:Int×Int):Ending:=.panicked [{v:=.iface 144 (.agg #[.int .i64 x.1,.int .i64 x.2]),recovered:=false}]
def Ran{α:Type}(S:Nat->Prop)(w:World)(r:PR α)(V:α->Nat->Ending->World->Prop)(e:Ending)(w':World):Prop:=
 (∃x:Int×Int,r=.error x/\e=.panicked [{v:=.iface 144 (.agg #[.int .i64 x.1,.int .i64 x.2]),recovered:=false}]/\Off S w w')\/(∃a j,r=.ok (a,j)/\V a j e w'/\Off S w w')
theorem Ran.bad{α:Type}{S:Nat->Prop}{w w':World}{r:PR α}{V:α->Nat->Ending->World->Prop}{p e:Int}(hr:r=.error (p,e))(ho:Off S w w'):
  Ran S w r V (.panicked [{v:=.iface 144 (.agg #[.int .i64 p,.int .i64 e]),recovered:=false}]) w':=.inl ⟨(p,e),hr,rfl,ho⟩
theorem Ran.good{α:Type}{S:Nat->Prop}{w w':World}{r:PR α}{V:α->Nat->Ending->World->Prop}{a:α}{j:Nat}{e:Ending}(hr:r=.ok (a,j))(hv:V a j e w')(ho:Off S w w'):Ran S w r V e w':=.inr ⟨a,j,hr,hv,ho⟩
theorem dO(p:Prs)(w:World)(i:Nat)(h:p.At w i):Calls Tryz.prog 50 #[.pointer (some ⟨p.pb,0,none⟩)] w fun e w'=>e=.returned (oBx24 (aL p.l i).kind (aL p.l i).text (aL p.l i).n (aL p.l i).pos)/\Below w.heap.size w w':=by
 have h2:=h.later (aA w (dT 0 ⟨#[]⟩ 0 0));obtain⟨⟨c1,c2,c3,c4⟩,-⟩:=h.toks i _ h.tok;have b0:=h.box0;have b1:=h.box1;obtain⟨⟨d1,d2,d3,d4⟩,-⟩:=h2.toks i _ h2.tok;have e0:=h2.box0;have e1:=h2.box1;have rU:i<p.l.length:=h.lt;have hin:(0:Int)<=(i:Int)/\(i:Int)<(p.l.length:Int):=YM;generalize aL p.l i=t at c1 c2 c3 c4 d1 d2 d3 d4 ⊢;clear h h2;obtain⟨l,b,o,c,pb⟩:=p;simp only at *;go_enter Tryz.func50,Tryz.ntmps50
 go_wp2
 go_region
 go_wp2
 refine bodyPost_ret (v:=tokVal t) (by simp[results,Tryz.results50,go_sem]) rfl ⟨rfl,?_⟩;exact(aA _ _).drew
theorem tokF0(w:World)(a b c d:Value):(Instr.field 59 (.agg #[a,b,c,d]) 0).run Tryz.prog w=.ok a w:=YN
theorem tokF1(w:World)(a b c d:Value):(Instr.field 59 (.agg #[a,b,c,d]) 1).run Tryz.prog w=.ok b w:=YN
theorem tokF3(w:World)(a b c d:Value):(Instr.field 59 (.agg #[a,b,c,d]) 3).run Tryz.prog w=.ok d w:=YN
theorem stop_any(p:Prs)(w:World)(i:Nat)(e:Int)(h:p.At w i):Calls Tryz.prog 136 #[.pointer (some ⟨p.pb,0,none⟩),.int .i64 e] w fun en w'=>en=faultE ((aL p.l i).pos,e)/\Below w.heap.size w w':=by
 have HN:=zh (dO p w i h);clear h;generalize aL p.l i=t at HN ⊢;obtain⟨l,b,o,c,pb⟩:=p;have F3:=tokF3;go_enter Tryz.func136,Tryz.ntmps136;go_wp2_with(go_at_call 50;refine HN.out.mono ?_;rintro e' w' ⟨rfl,hb⟩);exact⟨rfl,rfl,hb⟩
theorem rI(p:Prs)(w:World)(e:Int):Calls Tryz.prog 49 #[.pointer (some ⟨p.pb,0,none⟩),.bool true,.int .i64 e] w fun en w'=>en=.returned (.tuple #[])/\w=w':=by
 obtain⟨l,b,o,c,pb⟩:=p;go_enter Tryz.func49,Tryz.ntmps49;go_wp2_with fail;go_end0;exact⟨rfl,rfl⟩
theorem rJ(p:Prs)(w:World)(i:Nat)(e:Int)(h:p.At w i):Calls Tryz.prog 49 #[.pointer (some ⟨p.pb,0,none⟩),.bool false,.int .i64 e] w fun en w'=>en=faultE ((aL p.l i).pos,e)/\Below w.heap.size w w':=by
 have HN:=zh (stop_any p w i e h);clear h;generalize aL p.l i=t at HN ⊢;obtain⟨l,b,o,c,pb⟩:=p;go_enter Tryz.func49,Tryz.ntmps49;go_wp2_with(go_at_call 136;refine HN.out.mono ?_;rintro e' w' ⟨rfl,hb⟩);exact⟨rfl,rfl,hb⟩
theorem gN(p:Prs)(w:World)(i:Nat)(b:Bool)(e:Int)(h:p.At w i):Calls Tryz.prog 49 #[.pointer (some ⟨p.pb,0,none⟩),.bool b,.int .i64 e] w fun en w'=>(b=true/\en=.returned (.tuple #[])/\w=w')\/(b=false/\en=faultE ((aL p.l i).pos,e)/\Below w.heap.size w w'):=by
 cases b with
 |true=>exact(rI p w e).mono fun en w' h=>.inl ⟨rfl,h⟩
 |false=>exact(rJ p w i e h).mono fun en w' h=>.inr ⟨rfl,h⟩
theorem gZ(p:Prs)(w:World)(i:Nat)(s:bA)(h:p.At w i):Calls Tryz.prog 112 #[.pointer (some ⟨p.pb,0,none⟩),.string s] w fun e w'=>e=.returned (.bool (isP p.l i s))/\Below w.heap.size w w':=by
 have HA:=zh h;have HN:=zh (fun W(hW:p.At W i)=>dO p W i hW);have HI:Hid (isP p.l i s=(decide ((aL p.l i).kind≠3)&&decide ((aL p.l i).text=s))):=zh rfl;clear h;generalize isP p.l i s=q at HI ⊢;generalize aL p.l i=t at HN HI;have F0:=tokF0;have F1:=tokF1;by_cases hk:t.kind=3
 ·go_enter Tryz.func112,Tryz.ntmps112;go_wp2_with(go_at_call 50;refine(HN.out w HA.out).mono ?_;rintro e w1 ⟨rfl,rR⟩);go_ret;exact⟨aF (by rw[HI.out,decide_eq_false (by simp[hk])];rfl),rR⟩
 have OS:(t.kind != 3)=true:=by rw[bne_iff_ne];exact hk
 go_enter Tryz.func112,Tryz.ntmps112;go_wp2_with(first|(go_at_call 50;refine(HN.out w HA.out).mono ?_;rintro e w1 ⟨rfl,rR⟩;have CC:=zh (HA.out.later rR))|(go_at_call 50;refine(HN.out w1 CC.out).mono ?_;rintro e w2 ⟨rfl,rQ⟩));go_ret;exact⟨aF (by rw[HI.out,decide_eq_true hk,eG];rfl),aC rR rQ⟩
end Go.Proofs.YtiionicikdnnpaaGreatDoor
namespace Go.Proofs.YtiionicikdnnpaaGreatDoor
open Go.RowKit
theorem V0{p:Prop}(h:p:=by
 obtain⟨m,hm⟩:=hg.maxLen;have HW:=zh (word_any s w YM);have HC:=zh (Tryz.strings_Contains lQ ((bs [32]++s)++bs [32]) m w (by rw[reserved_size];decide) hm);have HN:Hid (aK s=(eZ s&& !Lib.contains lQ.data.toList ((bs [32]++s)++bs [32]).data.toList)):=zh rfl;clear hm hg;generalize Lib.contains lQ.data.toList ((bs [32]++s)++bs [32]).data.toList=q at HC HN
 cases hw:eZ s with
 |false=>
  rw[hw] at HW HN;clear hw;go_enter Tryz.func17,Tryz.ntmps17;go_wp2_with(go_at_call 59;refine HW.out.mono ?_;rintro e w1 ⟨rfl,rfl⟩);go_ret;exact⟨aF (by rw[HN.out];rfl),rfl⟩
 |true=>
  rw[hw] at HW HN;clear hw;go_enter Tryz.func17,Tryz.ntmps17;go_wp2_with(first|(go_at_call 59;refine HW.out.mono ?_;rintro e w1 ⟨rfl,rfl⟩)|(go_at_call 60;refine HC.out.mono ?_;rintro e w2 ⟨rfl,rfl⟩));go_ret
  exact⟨aF (by rw[HN.out];rfl),rfl⟩):p:=h
section
variable {p:Prs} {w:World} {i:Nat} {s:bA}
theorem isP_lt(h:p.At w i)(hq:isP p.l i s=true):i+1<p.l.length:=by
 refine h.last i _ h.tok ?_;unfold isP at hq;simp only[Bool.and_eq_true,decide_eq_true_eq] at hq;exact hq.1
theorem isNameP_lt(h:p.At w i)(hq:cP p.l i=true):i+1<p.l.length:=by
 refine h.last i _ h.tok ?_;unfold cP at hq;simp only[Bool.and_eq_true,decide_eq_true_eq] at hq;omega
theorem Prs.At.bound(h:p.At w i):(0:Int)<=(i:Int)/\(i:Int)<8001:=by have:=h.lt;have:=h.len;omega
end
theorem gM(p:Prs)(w:World)(i:Nat)(s:bA)(h:p.At w i)(hq:isP p.l i s=true):
  Calls Tryz.prog 120 #[.pointer (some ⟨p.pb,0,none⟩),.string s] w fun e w'=>e=.returned (.bool true)/\p.At w' (i+1)/\Off p.S w w':=by
 have HA:=zh h;have HI:=zh (gZ p w i s h);rw[hq] at HI;have hl:=isP_lt h hq;have hb:=h.bound;clear h hq;go_enter Tryz.func120,Tryz.ntmps120;go_wp2_with(go_at_call 112;refine HI.out.mono ?_;rintro e w1 ⟨rfl,rR⟩;have CC:=zh (HA.out.later rR);have b1:=CC.out.box1;have f1:=CC.out.froz);go_ret;exact⟨rfl,(CC.out.step hl).1,(Ba rR).trans (CC.out.step hl).2⟩
theorem bG(p:Prs)(w:World)(i:Nat)(s:bA)(h:p.At w i)(hq:isP p.l i s=false):
  Calls Tryz.prog 120 #[.pointer (some ⟨p.pb,0,none⟩),.string s] w fun e w'=>e=.returned (.bool false)/\p.At w' i/\Off p.S w w':=by
 have HA:=zh h;have HI:=zh (gZ p w i s h);rw[hq] at HI;clear h hq;go_enter Tryz.func120,Tryz.ntmps120;go_wp2_with(go_at_call 112;refine HI.out.mono ?_;rintro e w1 ⟨rfl,rR⟩);go_ret;exact⟨rfl,HA.out.later rR,Ba rR⟩
theorem oF(p:Prs)(w:World)(i:Nat)(s:bA)(h:p.At w i):
  Calls Tryz.prog 120 #[.pointer (some ⟨p.pb,0,none⟩),.string s] w fun e w'=>e=.returned (.bool (isP p.l i s))/\p.At w' (if isP p.l i s then i+1 else i)/\Off p.S w w':=by
 cases hq:isP p.l i s with
 |true=>exact gM p w i s h hq
 |false=>exact bG p w i s h hq
theorem eA(p:Prs)(w:World)(i:Nat)(s:bA)(h:p.At w i):
  Calls Tryz.prog 110 #[.pointer (some ⟨p.pb,0,none⟩),.string s] w (Ran p.S w (eB p.l i s) fun _ j e w'=>e=.returned (.tuple #[])/\p.At w' j):=by
 cases hq:isP p.l i s with
 |true=>
  have HW:Hid (eB p.l i s=.ok ((),i+1)):=zh (by unfold eB;rw[hq];rfl);have HH:=zh (gM p w i s h hq);clear h hq;go_enter Tryz.func110,Tryz.ntmps110;go_wp2_with(first|(go_at_call 120;refine HH.out.mono ?_;rintro e w1 ⟨rfl,sG,rX⟩)|(go_at_call 49;refine(rI p _ _).mono ?_;rintro e w2 ⟨rfl,rfl⟩));go_end0;exact Ran.good HW.out ⟨rfl,sG⟩ rX
 |false=>
  have HW:Hid (eB p.l i s=.error ((aL p.l i).pos,11)):=zh (by unfold eB;rw[hq];rfl);have HH:=zh (bG p w i s h hq);clear h hq;go_enter Tryz.func110,Tryz.ntmps110;go_wp2_with(first|(go_at_call 120;refine HH.out.mono ?_;rintro e w1 ⟨rfl,sG,rX⟩)|(go_at_call 49;refine(rJ p _ i _ sG).mono ?_;rintro e w2 ⟨rfl,rQ⟩));exact⟨rfl,Ran.bad HW.out (rX.trans (Ba rQ))⟩
theorem end_any(p:Prs)(w:World)(i:Nat)(fits:Bool)(s:bA)(h:p.At w i):
  Calls Tryz.prog 116 #[.pointer (some ⟨p.pb,0,none⟩),.bool fits,.string s] w (Ran p.S w (lX p.l i fits s) fun _ j e w'=>e=.returned (.tuple #[])/\p.At w' j):=by
 have HI:=zh (gZ p w i s h);have HA:=zh h;have hb:=h.bound
 cases hq:isP p.l i s with
 |false=>
  have HW:Hid (lX p.l i fits s=.error ((aL p.l i).pos,11)):=zh (by unfold lX;rw[hq];rfl);rw[hq] at HI;clear h hq;go_enter Tryz.func116,Tryz.ntmps116;go_wp2_with(first|(go_at_call 112;refine HI.out.mono ?_;rintro e w1 ⟨rfl,rR⟩;have sG:=zh (HA.out.later rR))|(go_at_call 49;refine(rJ p _ i _ sG.out).mono ?_;rintro e w2 ⟨rfl,rQ⟩));exact⟨rfl,Ran.bad HW.out (Ba (aC rR rQ))⟩
 |true=>
  have hl:=isP_lt h hq
  cases fits with
  |false=>
   have HW:Hid (lX p.l i false s=.error ((aL p.l i).pos,6)):=zh (by unfold lX;rw[hq];rfl);rw[hq] at HI;clear h hq;go_enter Tryz.func116,Tryz.ntmps116;go_wp2_with(first|(go_at_call 112;refine HI.out.mono ?_;rintro e w1 ⟨rfl,rR⟩;have sG:=zh (HA.out.later rR))|(go_at_call 49;refine(gN p _ i _ _ sG.out).mono ?_;rintro e w2 (⟨he,rfl,rfl⟩|⟨he,rfl,rQ⟩)<;>first|(cases he;done)|skip));exact⟨rfl,Ran.bad HW.out (Ba (aC rR rQ))⟩
  |true=>
   have HW:Hid (lX p.l i true s=.ok ((),i+1)):=zh (by unfold lX;rw[hq];rfl);rw[hq] at HI;clear h hq;go_enter Tryz.func116,Tryz.ntmps116;go_wp2_with(first|(go_at_call 112;refine HI.out.mono ?_;rintro e w1 ⟨rfl,rR⟩;have sG:=zh (HA.out.later rR);have b1:=sG.out.box1;have f1:=sG.out.froz)|(go_at_call 49;refine(rI p _ _).mono ?_;rintro e w2 ⟨rfl,rfl⟩));go_end0;exact Ran.good HW.out ⟨rfl,(sG.out.step hl).1⟩ ((Ba rR).trans (sG.out.step hl).2)
theorem reserved_size:lQ.size=124:=YN
theorem jW(s:bA)(w:World)(hs:s.size<=16000)(hg:eJ w):
  Calls Tryz.prog 17 #[.string s] w fun e w'=>e=.returned (.bool (aK s))/\w=w':=by
 exact V0
end Go.Proofs.YtiionicikdnnpaaGreatDoor
namespace Go.Proofs.YtiionicikdnnpaaGreatDoor
open Go.RowKit
theorem WF{p:Prop}(h:p:=by
 go_wp2_with(first|(go_at_call 182;refine HI.out.mono ?_;rintro e w1 ⟨rfl,rR⟩;have sG:=zh (HA.out.later rR))|(go_at_call 49;refine(rJ p _ i _ sG.out).mono ?_;rintro e w2 ⟨rfl,rQ⟩))
 exact⟨rfl,Ran.bad HW.out (Ba (aC rR rQ))⟩):p:=h
theorem jF(p:Prs)(w:World)(i:Nat)(h:p.At w i):Calls Tryz.prog 182 #[.pointer (some ⟨p.pb,0,none⟩)] w fun e w'=>e=.returned (.bool (cP p.l i))/\Below w.heap.size w w':=by
 have HA:=zh h;have HN:=zh (fun W(hW:p.At W i)=>dO p W i hW);have tK:=(h.toks i _ h.tok).2;have HM:=zh (fun W(hW:p.At W i)=>jW (aL p.l i).text W YM hW.glob);have HI:Hid (cP p.l i=(decide ((aL p.l i).kind=0)&&aK (aL p.l i).text)):=zh rfl;clear h tK;generalize cP p.l i=q at HI ⊢;generalize aL p.l i=t at HN HI HM;have F0:=tokF0;have F1:=tokF1;by_cases hk:t.kind=0
 ·go_enter Tryz.func182,Tryz.ntmps182;go_wp2_with(first|(go_at_call 50;refine(HN.out w HA.out).mono ?_;rintro e w1 ⟨rfl,rR⟩;have CC:=zh (HA.out.later rR))|(go_at_call 50;refine(HN.out w1 CC.out).mono ?_;rintro e w2 ⟨rfl,rQ⟩;have CQ:=zh (CC.out.later rQ))|(go_at_call 17;refine(HM.out w2 CQ.out).mono ?_;rintro e w3 ⟨rfl,rfl⟩));go_ret;exact⟨aF (by rw[HI.out,decide_eq_true hk];rfl),aC rR rQ⟩
 have OS:(t.kind==0)=false:=by rw[beq_eq_false_iff_ne];exact hk
 go_enter Tryz.func182,Tryz.ntmps182;go_wp2_with(go_at_call 50;refine(HN.out w HA.out).mono ?_;rintro e w1 ⟨rfl,rR⟩);go_ret;exact⟨aF (by rw[HI.out,decide_eq_false hk];rfl),rR⟩
theorem Prs.At.stepped{p:Prs}{w:World}{i:Nat}(h:p.At w i)(hl:i+1<p.l.length):
  (w.setCell ⟨p.pb,1,none⟩ (.int .i64 ((i:Int)+1))).cell? ⟨p.pb,0,none⟩=some (.slice (some ⟨p.b,p.o,none⟩) p.l.length p.c)/\(w.setCell ⟨p.pb,1,none⟩ (.int .i64 ((i:Int)+1))).cell? ⟨p.pb,1,none⟩=some (.int .i64 ((i:Int)+1))/\
  (w.setCell ⟨p.pb,1,none⟩ (.int .i64 ((i:Int)+1))).cell? ⟨p.b,p.o+i*4+1,none⟩=some (.string (aL p.l i).text):=by
 have h2:=(h.step hl).1;have ht:p.l[i]? =some (aL p.l i):=h.tok;exact⟨h2.box0,by simpa using h2.box1,(h2.toks i _ ht).1.2.1⟩
theorem aE(w:World):Below w.heap.size w w.drew:=(Below.refl _ _).drew
theorem gJ(p:Prs)(w:World)(i:Nat)(h:p.At w i):
  Calls Tryz.prog 111 #[.pointer (some ⟨p.pb,0,none⟩)] w (Ran p.S w (gK p.l i) fun a j e w'=>e=.returned (.string a)/\p.At w' j/\a.size<=8000):=by
 have HA:=zh h;have HI:=zh (jF p w i h);have hb:=h.bound;have tK:=zh (h.toks i _ h.tok).2
 cases hq:cP p.l i with
 |false=>
  have HW:Hid (gK p.l i=.error ((aL p.l i).pos,11)):=zh aBo;rw[hq] at HI;clear h hq;go_enter Tryz.func111,Tryz.ntmps111;exact WF
 |true=>
  have hl:=isNameP_lt h hq;have HW:Hid (gK p.l i=.ok ((aL p.l i).text,i+1)):=zh aBo;rw[hq] at HI;have hin:(0:Int)<=(i:Int)/\(i:Int)<(p.l.length:Int):=YM;clear h hq;go_enter Tryz.func111,Tryz.ntmps111;go_wp2_with(first|(go_at_call 182;refine HI.out.mono ?_;rintro e w1 ⟨rfl,rR⟩;have sG:=zh (HA.out.later rR);have b1:=sG.out.box1;have f1:=sG.out.froz)|(go_at_call 49;refine(rI p _ _).mono ?_;rintro e w2 ⟨rfl,rfl⟩;obtain⟨d0,d1,d2⟩:=sG.out.stepped hl));go_region
  go_wp2_with fail;go_ret;exact Ran.good HW.out ⟨rfl,(sG.out.step hl).1.later (aE _),tK.out⟩ ((Ba rR).trans (sG.out.step hl).2).drew
mutual
def bN(N:Nat->Prop)(w:World):Xp->List Value->Prop
 | .mk op n s m names args,cs=>∃vn va,cs=[.int .i64 op,.int .i64 n,.string s,.string m,vn,va]/\s.size<=8000/\m.size<=8000/\aO 1 dD N w vn names/\
   ∃a c,va=.slice a args.length c/\args.length<=c/\c<=9223372036854775807/\(args≠[]->∃b o,a=some ⟨b,o,none⟩/\N b/\encXs N w b o args)
def encXs(N:Nat->Prop)(w:World)(b:Nat):Nat->List Xp->Prop
 |_,[]=>True
 |o,x::r=>(∃cs,bN N w x cs/\cs.length=6/\∀j u,cs[j]? =some u->w.cell? ⟨b,o+j,none⟩=some u)/\encXs N w b (o+6) r
end
mutual
def iY(N:Nat->Prop)(w:World):Ty->List Value->Prop
 | .mk kind fields,cs=>∃vf,cs=[.int .i64 kind,vf]/\∃a c,vf=.slice a fields.length c/\fields.length<=c/\c<=9223372036854775807/\(fields≠[]->∃b o,a=some ⟨b,o,none⟩/\N b/\encFs N w b o fields)
def encFs(N:Nat->Prop)(w:World)(b:Nat):Nat->List (bA×Ty)->Prop
 |_,[]=>True
 |o,(n,t)::r=>(w.cell? ⟨b,o,none⟩=some (.string n)/\n.size<=8000/\∃cs,iY N w t cs/\∀j u,cs[j]? =some u->w.cell? ⟨b,o+1+j,none⟩=some u)/\encFs N w b (o+3) r
end
def gS(N:Nat->Prop)(w:World)(f:Fld)(cs:List Value):Prop:=∃ct,cs=.string f.1::ct/\f.1.size<=8000/\iY N w f.2 ct
section
variable {N N':Nat->Prop} {w w':World}
theorem encXs_iff(b:Nat):∀(l:List Xp)(o:Nat),encXs N w b o l↔∀i x,l[i]? =some x->∃cs,bN N w x cs/\cs.length=6/\∀j u,cs[j]? =some u->w.cell? ⟨b,o+i*6+j,none⟩=some u
 |[],o=>by simp[encXs]
 |x::r,o=>by
  unfold encXs;rw[encXs_iff b r (o+6)];constructor
  ·rintro⟨h1,h2⟩ i y hy
   cases i with
   |zero=>simp at hy;subst hy;simpa using h1
   |succ i=>
    obtain⟨cs,a1,a2,a3⟩:=h2 i y aBt;exact⟨cs,a1,a2,fun j u hu=>by have:=a3 j u hu;rw[show o+(i+1)*6+j=o+6+i*6+j by omega];exact this⟩
  intro h;refine⟨by simpa using h 0 x rfl,fun i y hy=>?_⟩;obtain⟨cs,a1,a2,a3⟩:=h (i+1) y aBt;exact⟨cs,a1,a2,fun j u hu=>by have:=a3 j u hu;rw[show o+6+i*6+j=o+(i+1)*6+j by omega];exact this⟩
theorem aU(op n:Int)(s m:bA)(names:List bA)(args:List Xp)(cs:List Value):bN N w (.mk op n s m names args) cs↔
  ∃vn va,cs=[.int .i64 op,.int .i64 n,.string s,.string m,vn,va]/\s.size<=8000/\m.size<=8000/\aO 1 dD N w vn names/\aO 6 bN N w va args:=by
 unfold bN aO;simp only[encXs_iff]
mutual
theorem encX_moves(hm:bU N w N' w'):∀(x:Xp)(cs:List Value),bN N w x cs->bN N' w' x cs
 | .mk op n s m names args,cs,h=>by
  unfold bN at h ⊢;obtain⟨vn,va,hc,h1,h2,h3,a,c,h4,h5,h6,h7⟩:=h;refine⟨vn,va,hc,h1,h2,h3.moves aV hm YO,a,c,h4,h5,h6,fun rO=>?_⟩;obtain⟨b,o,ha,hb,hx⟩:=h7 rO
  have rU:b<w.heap.size:=by
   cases args with
   |nil=>exact absurd rfl rO
   |cons x r=>
    unfold encXs at hx;obtain⟨⟨cs,-,hl,hj⟩,-⟩:=hx;exact dS (hj 0 (cs[0]' YM) (List.getElem?_eq_getElem _))
  exact⟨b,o,ha,(hm b hb rU).1,encXs_moves hm b hb rU args o hx⟩
theorem encXs_moves(hm:bU N w N' w')(b:Nat)(hb:N b)(rU:b<w.heap.size):∀(l:List Xp)(o:Nat),encXs N w b o l->encXs N' w' b o l
 |[],_,_=>by unfold encXs;trivial
 |x::r,o,h=>by
  unfold encXs at h ⊢;obtain⟨⟨cs,h1,h2,h3⟩,h4⟩:=h;exact⟨⟨cs,encX_moves hm x cs h1,h2,fun j u hu=>(hm b hb rU).2 _ _ (h3 j u hu)⟩,encXs_moves hm b hb rU r (o+6) h4⟩
end
theorem aI:fL bN:=fun _ _ _ _ x cs hm h=>encX_moves hm x cs h
theorem encT_len:∀{t:Ty}{cs:List Value},iY N w t cs->cs.length=2
 | .mk _ _,_,h=>by unfold iY at h;obtain⟨vf,rfl,-⟩:=h;rfl
theorem encFs_iff(b:Nat):∀(l:List Fld)(o:Nat),encFs N w b o l↔∀i x,l[i]? =some x->∃cs,gS N w x cs/\cs.length=3/\∀j u,cs[j]? =some u->w.cell? ⟨b,o+i*3+j,none⟩=some u
 |[],o=>by simp[encFs]
 |(n,t)::r,o=>by
  unfold encFs;rw[encFs_iff b r (o+3)];constructor
  ·rintro⟨⟨h0,hn,ct,h1,h3⟩,h2⟩ i y hy
   cases i with
   |zero=>
    simp at hy;subst hy;refine⟨.string n::ct,⟨ct,rfl,hn,h1⟩,by simp[encT_len h1],fun j u hu=>?_⟩
    cases j with
    |zero=>simp at hu;subst hu;simpa using h0
    |succ j=>have:=h3 j u (by simpa using hu);rw[show o+0*3+(j+1)=o+1+j by omega];exact this
   |succ i=>
    obtain⟨cs,a1,a2,a3⟩:=h2 i y aBt;exact⟨cs,a1,a2,fun j u hu=>by have:=a3 j u hu;rw[show o+(i+1)*3+j=o+3+i*3+j by omega];exact this⟩
  intro h;refine⟨?_,fun i y hy=>?_⟩
  ·obtain⟨cs,⟨ct,rfl,hn,h1⟩,-,a3⟩:=h 0 (n,t) rfl;refine⟨by simpa using a3 0 (.string n) rfl,hn,ct,h1,fun j u hu=>?_⟩;have:=a3 (j+1) u (by simpa using hu);rw[show o+1+j=o+0*3+(j+1) by omega];exact this
  obtain⟨cs,a1,a2,a3⟩:=h (i+1) y aBt;exact⟨cs,a1,a2,fun j u hu=>by have:=a3 j u hu;rw[show o+3+i*3+j=o+(i+1)*3+j by omega];exact this⟩
theorem gV(kind:Int)(fields:List Fld)(cs:List Value):iY N w (.mk kind fields) cs↔∃vf,cs=[.int .i64 kind,vf]/\aO 3 gS N w vf fields:=by
 unfold iY aO;simp only[encFs_iff]
mutual
theorem encT_moves(hm:bU N w N' w'):∀(t:Ty)(cs:List Value),iY N w t cs->iY N' w' t cs
 | .mk kind fields,cs,h=>by
  unfold iY at h ⊢;obtain⟨vf,hc,a,c,h4,h5,h6,h7⟩:=h;refine⟨vf,hc,a,c,h4,h5,h6,fun rO=>?_⟩;obtain⟨b,o,ha,hb,hx⟩:=h7 rO
  have rU:b<w.heap.size:=by
   cases fields with
   |nil=>exact absurd rfl rO
   |cons x r=>
    obtain⟨n,t⟩:=x;unfold encFs at hx;exact dS hx.1.1
  exact⟨b,o,ha,(hm b hb rU).1,encFs_moves hm b hb rU fields o hx⟩
theorem encFs_moves(hm:bU N w N' w')(b:Nat)(hb:N b)(rU:b<w.heap.size):∀(l:List (bA×Ty))(o:Nat),encFs N w b o l->encFs N' w' b o l
 |[],_,_=>by unfold encFs;trivial
 |(n,t)::r,o,h=>by
  unfold encFs at h ⊢;obtain⟨⟨h0,hn,cs,h1,h3⟩,h4⟩:=h;exact⟨⟨(hm b hb rU).2 _ _ h0,hn,cs,encT_moves hm t cs h1,fun j u hu=>(hm b hb rU).2 _ _ (h3 j u hu)⟩,encFs_moves hm b hb rU r (o+3) h4⟩
end
theorem fU:fL iY:=fun _ _ _ _ x cs hm h=>encT_moves hm x cs h
theorem aZ:fL gS:=fun _ _ _ _ x cs hm h=>by
 obtain⟨ct,h1,h2,h3⟩:=h;exact⟨ct,h1,h2,encT_moves hm _ _ h3⟩
end
theorem aO.of_block{α:Type}{k:Nat}{enc:(Nat->Prop)->World->α->List Value->Prop}{N:Nat->Prop}{w:World}{b:Nat}{css:List (List Value)}{l:List α}{T:TypeId}{fr:Nat×Nat}{n:Nat}(hb:w.heap[b]? =some (.cells css.flatten.toArray T fr))(hN:N b)
  (hl:css.length=l.length) (hk:∀c,c∈css->c.length=k) (he:∀(i:Nat)(x:α)(c:List Value),l[i]? =some x->css[i]? =some c->enc N w x c) (hn:l.length=n) (tQ:n<=9223372036854775807):
  aO k enc N w (.slice (some ⟨b,0,none⟩) n n) l:=by
 subst hn;refine⟨_,_,rfl,Nat.le_refl _,tQ,fun _=>⟨b,0,rfl,hN,fun i x hx=>?_⟩⟩;have hi:=(Yb.1 hx).1;obtain⟨c,hc⟩:∃c,css[i]? =some c:=⟨_,List.getElem?_eq_getElem (by rw[hl];exact hi)⟩;have hck:=hk c (List.mem_of_getElem? hc);refine⟨c,he i x c hx hc,hck,fun j u hu=>?_⟩;have hj:j<k:=by rw[<-hck];exact(Yb.1 hu).1
 have hf:=flatten_at css hk i c j hc hj;rw[hu] at hf;have h2:css.flatten.toArray[i*k+j]? =some u:=by simpa using hf
 rw[Nat.zero_add];simp[World.cell?,hb,h2]
theorem qE:∀(l:List Fld)(k:Nat)(x:Fld),l[k]? =some x->cU (l.take (k+1))=max (cU (l.take k)) (bI x.2)
 |[],k,x,h=>Z0
 |y::l,0,x,h=>by
  simp at h;subst h;obtain⟨n,t⟩:=y;simp[cU]
 |y::l,k+1,x,h=>by
  have:=qE l k x ZS;obtain⟨n,t⟩:=y;simp only[List.take_succ_cons,cU,this,Nat.max_assoc]
theorem kX:∀(l:List Fld)(x:Fld),x∈l->bI x.2<=cU l
 |[],x,h=>aAW
 |(n,t)::l,x,h=>by
  unfold cU;rcases List.mem_cons.1 h with rfl|h
  ·exact Nat.le_max_left _ _
  exact Nat.le_trans (kX l x h) (Nat.le_max_right _ _)
theorem depthXs_take:∀(l:List Xp)(k:Nat)(x:Xp),l[k]? =some x->eH (l.take (k+1))=max (eH (l.take k)) (cD x)
 |[],k,x,h=>Z0
 |y::l,0,x,h=>by simp at h;subst h;simp[eH]
 |y::l,k+1,x,h=>by
  have:=depthXs_take l k x ZS;simp only[List.take_succ_cons,eH,this,Nat.max_assoc]
theorem lW:∀(l:List Xp)(x:Xp),x∈l->cD x<=eH l
 |[],x,h=>aAW
 |y::l,x,h=>by
  unfold eH;rcases List.mem_cons.1 h with rfl|h
  ·exact Nat.le_max_left _ _
  exact Nat.le_trans (lW l x h) (Nat.le_max_right _ _)
end Go.Proofs.YtiionicikdnnpaaGreatDoor
namespace Go.Proofs.YtiionicikdnnpaaGreatDoor
open Go.RowKit
theorem W7{p:Prop}(h:p:=by
 go_wp2_with fail;go_loop [3,9] (fun m i=>m=.int .i64 0/\i=.int .i64 0) (fun _ _=>0)
 case atStart=>exact⟨rfl,rfl⟩
 case round=>
  obtain⟨rfl,rfl⟩:=hrel;go_wp2_with fail;go_ret
  exact⟨rfl,aA _ _⟩):p:=h
theorem XP{p:Prop}(h:p:=by
 go_roundw;case rel=>exact⟨q+1,YM,YZ,by rw[HT.out];go_num,zh (aC HB.out (aC (aA _ _) rR))⟩
 case measure=>simp[intOf];omega):p:=h
theorem levelsFs_le:∀(l:List Fld)(k:Nat),cU (l.take k)<=cU l
 |[],k=>YR
 |x::l,0=>by simp[cU]
 |(n,t)::l,k+1=>by
  have:=levelsFs_le l k;simp only[List.take_succ_cons,cU];omega
theorem depthXs_le:∀(l:List Xp)(k:Nat),eH (l.take k)<=eH l
 |[],k=>YR
 |x::l,0=>by simp[eH]
 |x::l,k+1=>by
  have:=depthXs_le l k;simp only[List.take_succ_cons,eH];omega
theorem levels_any:∀(d:Nat)(t:Ty)(N:Nat->Prop)(k:Int)(vf:Value)(w:World),bI t<=d->bI t<=9000000000000000000->iY N w t [.int .i64 k,vf]->
  Calls Tryz.prog 117 #[.agg #[.int .i64 k,vf]] w fun e w'=>e=.returned (.int .i64 (bI t:Nat))/\Below w.heap.size w w'
 |0,t,_,_,_,_,hd,_,_=>by cases t;simp[bI] at hd
 |d+1,.mk kind fields,N,k,vf,w,hd,tQ,he=>by
  rw[gV] at he;obtain⟨vf',hv,hr⟩:=he;cases hv;have yM:bI (.mk kind fields)=cU fields+1:=by rw[bI]
  rw[yM] at hd tQ ⊢;clear yM;have U3:=zh (fun t N k vf w h1 h2 h3=>levels_any d t N k vf w h1 h2 h3);rcases hr.cases YO with⟨rfl,a,c,rfl⟩|⟨b,o,c,rfl,h0,h1,h2,hb,hN,hc⟩
  ·clear hr;go_enter Tryz.func117,Tryz.ntmps117;exact W7
  have HC:=zh hc;clear hc hr;go_enter Tryz.func117,Tryz.ntmps117;go_wp2_with fail;go_loopw [3,9] (fun m i wr=>∃q:Nat,q<=fields.length/\i=.int .i64 q/\m=.int .i64 (cU (fields.take q):Nat)/\Hid (Below w.heap.size w wr)) (fun _ i _=>fields.length-(intOf i).toNat)
  case atStart=>exact⟨0,Nat.zero_le _,rfl,by simp[cU],zh (aA _ _)⟩
  case round=>
   obtain⟨q,hq,rfl,rfl,HB⟩:=hrel;(rename World=>wr);by_cases rU:q<fields.length
   ·obtain⟨x,hx,tD⟩:=getElem?_of_lt rU;obtain⟨cs,⟨ct,rfl,hn,uG⟩,-,hj⟩:=HC.out q x hx;have hm:=kX fields x tD;have HT:Hid (cU (fields.take (q+1))=max (cU (fields.take q)) (bI x.2)):=zh (qE fields q x hx);obtain⟨nm,ty⟩:=x
    cases ty with
    |mk k2 f2=>
     have xT:=uG;rw[gV] at xT;obtain⟨vf2,rfl,wB⟩:=xT;obtain⟨a2,cc2,rfl,-⟩:=wB;have c0:wr.cell? ⟨b,o+q*3,none⟩=some (.string nm):=aD HB.out (hj 0 _ rfl);have c1:=aD HB.out (hj 1 _ rfl);have c2:=aD HB.out (hj 2 _ rfl);have HE:=zh (fun W(h:Below w.heap.size w W)=>fU _ _ _ _ _ _ (bU.later h) uG);have HL:=zh (fun W h=>U3.out (.mk k2 f2) N k2 _ W (by simp only at hm;omega) (by simp only at hm;omega) (HE.out W h));simp only at HT;have hmx:=HT.out;have NG:cU (fields.take (q+1))<=cU fields:=levelsFs_le fields _;clear hj hx tD uG hm hn;generalize bI (.mk k2 f2)=lv at HL HT hmx;generalize cU (fields.take q)=l0 at HT hmx ⊢;go_wp2_with(go_at_call 117;refine(HL.out _ (aC HB.out (aA _ _))).mono ?_;rintro e w1 ⟨rfl,rR⟩);exact XP
   have wK:q=fields.length:=YM;subst wK;rw[List.take_length];generalize NG:cU fields=lv at tQ ⊢;have HV:=zh NG;clear NG;go_wp2_with fail;go_ret;exact⟨iJ (by have:=HV.out;omega),HB.out⟩
theorem depth_any:∀(d:Nat)(x:Xp)(N:Nat->Prop)(op n:Int)(s m:bA)(vn va:Value)(w:World),cD x<=d->cD x<=9000000000000000000->bN N w x [.int .i64 op,.int .i64 n,.string s,.string m,vn,va]->
  Calls Tryz.prog 51 #[kP op n s m vn va] w fun e w'=>e=.returned (.int .i64 (cD x:Nat))/\Below w.heap.size w w'
 |0,x,_,_,_,_,_,_,_,_,hd,_,_=>by cases x;simp[cD] at hd
 |d+1,.mk op n s m names args,N,op',n',s',m',vn,va,w,hd,tQ,he=>by
  rw[aU] at he;obtain⟨vn',va',hv,-,-,J1,hr⟩:=he;cases hv;have yM:cD (.mk op n s m names args)=eH args+1:=by rw[cD]
  rw[yM] at hd tQ ⊢;clear yM;have U3:=zh (fun x N op n s m vn va w h1 h2 h3=>depth_any d x N op n s m vn va w h1 h2 h3);obtain⟨an,cn,rfl,-⟩:=J1;rcases hr.cases YO with⟨rfl,a,c,rfl⟩|⟨b,o,c,rfl,h0,h1,h2,hb,hN,hc⟩
  ·clear hr;go_enter Tryz.func51,Tryz.ntmps51;exact W7
  have HC:=zh hc;clear hc hr;go_enter Tryz.func51,Tryz.ntmps51;go_wp2_with fail;go_loopw [3,9] (fun m i wr=>∃q:Nat,q<=args.length/\i=.int .i64 q/\m=.int .i64 (eH (args.take q):Nat)/\Hid (Below w.heap.size w wr)) (fun _ i _=>args.length-(intOf i).toNat)
  case atStart=>exact⟨0,Nat.zero_le _,rfl,by simp[eH],zh (aA _ _)⟩
  case round=>
   obtain⟨q,hq,rfl,rfl,HB⟩:=hrel;(rename World=>wr);by_cases rU:q<args.length
   ·obtain⟨x,hx,tD⟩:=getElem?_of_lt rU;obtain⟨cs,uG,-,hj⟩:=HC.out q x hx;have hm:=lW args x tD;have HT:Hid (eH (args.take (q+1))=max (eH (args.take q)) (cD x)):=zh (depthXs_take args q x hx)
    cases x with
    |mk wT n2 s2 m2 names2 args2=>
     have xT:=uG;rw[aU] at xT;obtain⟨vn2,va2,rfl,-,-,xQ,wB⟩:=xT;obtain⟨a1,RW,rfl,-⟩:=xQ;obtain⟨a2,cc2,rfl,-⟩:=wB;have c0:wr.cell? ⟨b,o+q*6,none⟩=some (.int .i64 wT):=aD HB.out (hj 0 _ rfl);have c1:=aD HB.out (hj 1 _ rfl);have c2:=aD HB.out (hj 2 _ rfl);have c3:=aD HB.out (hj 3 _ rfl);have c4:=aD HB.out (hj 4 _ rfl);have c5:=aD HB.out (hj 5 _ rfl);have HE:=zh (fun W(h:Below w.heap.size w W)=>aI _ _ _ _ _ _ (bU.later h) uG);have HL:=zh (fun W h=>U3.out (.mk wT n2 s2 m2 names2 args2) N wT n2 s2 m2 _ _ W YM YM (HE.out W h));have hmx:=HT.out;have NG:eH (args.take (q+1))<=eH args:=depthXs_le args _;clear hj hx tD uG hm;generalize cD (.mk wT n2 s2 m2 names2 args2)=lv at HL HT hmx;generalize eH (args.take q)=l0 at HT hmx ⊢;go_wp2_with(go_at_call 51;refine(HL.out _ (aC HB.out (aA _ _))).mono ?_;rintro e w1 ⟨rfl,rR⟩);exact XP
   have wK:q=args.length:=YM;subst wK;rw[List.take_length];generalize NG:eH args=lv at tQ ⊢;have HV:=zh NG;clear NG;go_wp2_with fail;go_ret;exact⟨iJ (by have:=HV.out;omega),HB.out⟩
end Go.Proofs.YtiionicikdnnpaaGreatDoor
