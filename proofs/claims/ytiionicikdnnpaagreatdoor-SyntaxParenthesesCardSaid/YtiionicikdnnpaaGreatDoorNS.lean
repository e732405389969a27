/- Texts of this seat, joined. -/
import Derived.Test.YtiionicikdnnpaaGreatDoorNR
import Derived.Laws.EntriesVeiled
import Derived.Test.YtiionicikdnnpaaGreatDoorLexC
set_option maxHeartbeats 1600000
set_option maxRecDepth 100000
set_option linter.unusedVariables false
set_option linter.unusedSimpArgs false
namespace Go.Proofs.YtiionicikdnnpaaGreatDoor
open Go.RowKit
def gU(w:World)(b:Nat):Prop:=∃es c,w.heap[b]? =some (.map es c)
theorem gU.of{P:Program}{kt et:TypeId}{κ ν:Type}{K:KeyC P kt κ}{V:ValC P et ν}{w:World}{b n:Nat}{m:κ->Option ν}(h:bR K V w b n m):gU w b:=by
 obtain⟨D,⟨es,clock,h1,-⟩,-⟩:=h;exact⟨es,clock,h1⟩
theorem gU.ne{w:World}{b k o:Nat}{v:Value}(h:gU w b)(hc:w.cell? ⟨k,o,none⟩=some v):k≠b:=by
 rintro rfl;obtain⟨es,c,h1⟩:=h;simp[World.cell?,h1] at hc
theorem gU.cell{w w':World}{b k o:Nat}{v:Value}(h:gU w b)(ho:lD b w w')(hc:w.cell? ⟨k,o,none⟩=some v):w'.cell? ⟨k,o,none⟩=some v:=ho.cell (h.ne hc) hc
theorem gU.box{w w':World}{b k:Nat}{cs:Array Value}{t:TypeId}{fr:Nat×Nat}(h:gU w b)(ho:lD b w w')(hc:w.heap[k]? =some (.cells cs t fr)):w'.heap[k]? =some (.cells cs t fr):=by
 obtain⟨es,c,h1⟩:=h;have pQ:k≠b:=by rintro rfl;rw[h1] at hc;cases hc
 exact(ho.block k (Array.getElem?_eq_some_iff.1 hc).1 pQ).trans hc
theorem only_grown{b:Nat}{w w':World}(h:w.grownBy w' (some b)):lD b w w':=⟨h.os,h.tape,h.output,h.size,fun k hk pQ=>h.block k hk (fun e=>pQ (by cases e;rfl))⟩
theorem aC{a b:World}{k:Nat}{o:Obj}(hb:Below a.heap.size a b)(hk:a.heap[k]? =some o):b.heap[k]? =some o:=(hb.block _ (Array.getElem?_eq_some_iff.1 hk).1).trans hk
structure Off (S:Nat->Prop) (w w':World):Prop where
 os:w'.os=w.os
 tape:w'.tape=w.tape
 output:w'.output=w.output
 size:w.heap.size<=w'.heap.size
 block:∀k,k<w.heap.size->¬S k->w'.heap[k]? =w.heap[k]?
theorem Off.refl(S:Nat->Prop)(w:World):Off S w w:=⟨rfl,rfl,rfl,Nat.le_refl _,fun _ _ _=>rfl⟩
theorem Off.trans{S:Nat->Prop}{u v w:World}(h:Off S u v)(k:Off S v w):Off S u w:=
 ⟨k.os.trans h.os,k.tape.trans h.tape,k.output.trans h.output,Nat.le_trans h.size k.size,fun i hi pQ=>(k.block i (Nat.lt_of_lt_of_le hi h.size) pQ).trans (h.block i hi pQ)⟩
theorem Ba{S:Nat->Prop}{w w':World}(h:Below w.heap.size w w'):Off S w w':=⟨h.os,h.tape,h.output,h.size,fun k hk _=>h.block k hk⟩
theorem Off.of_only{S:Nat->Prop}{b:Nat}{w w':World}(h:lD b w w')(hb:S b):Off S w w':=⟨h.os,h.tape,h.output,h.size,fun k hk hn=>h.block k hk (fun e=>hn (e▸hb))⟩
theorem Off.below{S:Nat->Prop}{u w w':World}{B:Nat}(h:Below B u w)(k:Off S w w')(hb:∀k,S k->B<=k)(hB:B<=w.heap.size):Below B u w':=
 ⟨k.os.trans h.os,k.tape.trans h.tape,k.output.trans h.output,Nat.le_trans h.size k.size,fun i hi=>(k.block i RY (fun hs=>by have:=hb i hs;omega)).trans (h.block i hi)⟩
theorem Off.cell{S:Nat->Prop}{w w':World}(h:Off S w w'){k o:Nat}{v:Value}(hn:¬S k)(hc:w.cell? ⟨k,o,none⟩=some v):w'.cell? ⟨k,o,none⟩=some v:=
 (World.cell?_of_block (w:=w) (h.block k (jK hc) hn)).trans hc
theorem Off.heap{S:Nat->Prop}{w w':World}(h:Off S w w'){k:Nat}{o:Obj}(hn:¬S k)(hc:w.heap[k]? =some o):w'.heap[k]? =some o:=
 (h.block k (Array.getElem?_eq_some_iff.1 hc).1 hn).trans hc
theorem Off.setCell{S:Nat->Prop}{b o:Nat}{v:Value}(w:World)(hb:S b):Off S w (w.setCell ⟨b,o,none⟩ v):=Off.of_only (lD.setCell w) hb
theorem Off.drew{S:Nat->Prop}{u w:World}(h:Off S u w):Off S u w.drew:=⟨h.os,h.tape,h.output,h.size,h.block⟩
theorem aU{w:World}{g i:Nat}{cs:Array Value}{t:TypeId}{fr:Nat×Nat}(h:w.heap[g]? =some (.cells cs t fr))(v:Value):(w.setCell ⟨g,i,none⟩ v).heap[g]? =some (.cells (cs.setIfInBounds i v) t fr):=by
 simp[World.setCell,Array.getElem?_modify,h]
def aQ(N:Nat->Prop)(w:World)(N':Nat->Prop)(w':World):Prop:=
 ∀b,N b->b<w.heap.size->N' b/\∀o v,w.cell? ⟨b,o,none⟩=some v->w'.cell? ⟨b,o,none⟩=some v
theorem aQ.refl(N:Nat->Prop)(w:World):aQ N w N w:=fun _ h _=>⟨h,fun _ _ h=>h⟩
theorem aQ.later{N:Nat->Prop}{w w':World}(hb:Below w.heap.size w w'):aQ N w N w':=fun _ h _=>⟨h,fun _ _ h=>aD hb h⟩
def fM{α:Type}(enc:(Nat->Prop)->World->α->List Value->Prop):Prop:=∀N w N' w' x cs,aQ N w N' w'->enc N w x cs->enc N' w' x cs
def aO{α:Type}(k:Nat)(enc:(Nat->Prop)->World->α->List Value->Prop)(N:Nat->Prop)(w:World)(v:Value)(l:List α):Prop:=
 ∃a c,v=.slice a l.length c/\l.length<=c/\c<=9223372036854775807/\
  (l≠[]->∃b o,a=some ⟨b,o,none⟩/\N b/\∀i x,l[i]? =some x->∃cs,enc N w x cs/\cs.length=k/\∀j u,cs[j]? =some u->w.cell? ⟨b,o+i*k+j,none⟩=some u)
theorem aO.moves{α:Type}{k:Nat}{enc:(Nat->Prop)->World->α->List Value->Prop}(he:fM enc){N N':Nat->Prop}{w w':World}{v:Value}{l:List α}(hm:aQ N w N' w')(hk:0<k)
  (h:aO k enc N w v l):aO k enc N' w' v l:=by
 obtain⟨a,c,hv,h1,h2,h3⟩:=h;refine⟨a,c,hv,h1,h2,fun pQ=>?_⟩;obtain⟨b,o,ha,hn,hc⟩:=h3 pQ
 have hb:b<w.heap.size:=by
  cases l with
  |nil=>exact absurd rfl pQ
  |cons x0 l=>
   exact QS
 obtain⟨yW,uA⟩:=hm b hn hb;refine⟨b,o,ha,yW,fun i x hx=>?_⟩;obtain⟨cs,e,hl,hj⟩:=hc i x hx;exact⟨cs,he _ _ _ _ _ _ hm e,hl,fun j u hu=>uA _ _ (hj j u hu)⟩
theorem aO.nil{α:Type}(k:Nat)(enc:(Nat->Prop)->World->α->List Value->Prop)(N:Nat->Prop)(w:World):aO k enc N w (.slice none 0 0) []:=⟨none,0,rfl,R2,R2,fun h=>absurd rfl h⟩
theorem aO.cases{α:Type}{k:Nat}{enc:(Nat->Prop)->World->α->List Value->Prop}{N:Nat->Prop}{w:World}{v:Value}{l:List α}(hk:0<k)(h:aO k enc N w v l):
  (l=[]/\∃a c,v=.slice a 0 c)\/(∃b o c,v=.slice (some ⟨b,o,none⟩) l.length c/\0<l.length/\l.length<=c/\c<=9223372036854775807/\b<w.heap.size/\N b/\
   ∀i x,l[i]? =some x->∃cs,enc N w x cs/\cs.length=k/\∀j u,cs[j]? =some u->w.cell? ⟨b,o+i*k+j,none⟩=some u):=by
 obtain⟨a,c,hv,h1,h2,h3⟩:=h
 cases l with
 |nil=>exact .inl ⟨rfl,a,c,hv⟩
 |cons x0 l=>
  obtain⟨b,o,ha,hn,hc⟩:=h3 R2;refine .inr ⟨b,o,c,by rw[hv,ha],R2,h1,h2,?_,hn,hc⟩;exact QS
theorem flatten_at{k:Nat}:∀(css:List (List Value)),(∀c,c∈css->c.length=k)->∀i c j,css[i]? =some c->j<k->css.flatten[i*k+j]? =c[j]?
 |[],_,i,c,j,h,_=>TP
 |d::css,hl,0,c,j,h,hj=>by
  simp at h;subst h;have hd:=hl d R2;rw[List.flatten_cons,Nat.zero_mul,Nat.zero_add,List.getElem?_append_left RY]
 |d::css,hl,i+1,c,j,h,hj=>by
  have hd:=hl d R2;rw[List.flatten_cons,List.getElem?_append_right (by rw[hd,Nat.succ_mul];omega),hd,show(i+1)*k+j-k=i*k+j by rw[Nat.succ_mul];omega];exact flatten_at css (fun c hc=>hl c (by simp[hc])) i c j TR hj
abbrev bO(B:Nat):Nat->Prop:=fun b=>B<=b
abbrev nD(B:Nat)(v:Value):Nat->Prop:=fun b=>B<=b/\v.ownBlock≠some b
structure Gro {α:Type} (k:Nat) (T:TypeId) (enc:(Nat->Prop)->World->α->List Value->Prop) (B:Nat) (l:List α) (css:List (List Value)) (v:Value) (w:World):Prop where
 own:w.ownsRow B T k v l.length css.flatten
 len:css.length=l.length
 ks:∀c,c∈css->c.length=k
 enc:∀(i:Nat)(x:α)(c:List Value),l[i]? =some x->css[i]? =some c->enc (nD B v) w x c
 big:B<=w.heap.size
section
variable {α:Type} {k:Nat} {T:TypeId} {enc:(Nat->Prop)->World->α->List Value->Prop} {B:Nat} {l:List α} {css:List (List Value)} {v:Value} {w w':World}
theorem Gro.first(k:Nat)(T:TypeId)(enc:(Nat->Prop)->World->α->List Value->Prop)(w:World):Gro k T enc w.heap.size [] [] (.slice none 0 0) w:=
 ⟨World.ownsRow_nil _ _ _ _,rfl,fun c h=>TY,fun i x c h=>TP,Nat.le_refl _⟩
theorem Gro.first_at(k:Nat)(T:TypeId)(enc:(Nat->Prop)->World->α->List Value->Prop){w:World}{B:Nat}(h:B<=w.heap.size):Gro k T enc B [] [] (.slice none 0 0) w:=
 ⟨World.ownsRow_nil _ _ _ _,rfl,fun c h=>TY,fun i x c h=>TP,h⟩
def dC(B:Nat)(w w':World):Prop:=w.heap.size<=w'.heap.size/\∀b cs t fr,B<=b->w.heap[b]? =some (.cells cs t fr)->w'.heap[b]? =some (.cells cs t fr)
theorem dC.refl(B:Nat)(w:World):dC B w w:=⟨Nat.le_refl _,fun _ _ _ _ _ h=>h⟩
theorem dC.trans{w'':World}(h:dC B w w')(k:dC B w' w''):dC B w w'':=⟨Nat.le_trans h.1 k.1,fun b _ _ _ hb hc=>k.2 b _ _ _ hb (h.2 b _ _ _ hb hc)⟩
theorem dC.of_below(hb:Below w.heap.size w w'):dC B w w':=⟨hb.size,fun b _ _ _ _ hc=>(hb.block b (Array.getElem?_eq_some_iff.1 hc).1).trans hc⟩
theorem dC.of_off{S:Nat->Prop}(ho:Off S w w')(hS:∀b,S b->b<B\/gU w b):dC B w w':=⟨ho.size,fun b _ _ _ hB hc=>by
 refine(ho.block b (Array.getElem?_eq_some_iff.1 hc).1 fun hs=>?_).trans hc;rcases hS b hs with h|⟨es,c,h⟩
 ·omega
 rw[h] at hc;cases hc⟩
theorem cell_heap{b o:Nat}{u:Value}(h:w.cell? ⟨b,o,none⟩=some u):∃cs t fr,w.heap[b]? =some (.cells cs t fr)/\cs[o]? =some u:=by
 unfold World.cell? at h
 cases hh:w.heap[b]? with
 |none=>simp[hh] at h
 |some ob=>
  cases ob with
  |cells cs t fr=>exact⟨cs,t,fr,rfl,by simpa[hh] using h⟩
  |_=>simp[hh] at h
theorem dC.cell(h:dC B w w'){b o:Nat}{u:Value}(hb:B<=b)(hc:w.cell? ⟨b,o,none⟩=some u):w'.cell? ⟨b,o,none⟩=some u:=by
 obtain⟨cs,t,fr,hh,hu⟩:=cell_heap hc;simp[World.cell?,h.2 b cs t fr hb hh,hu]
theorem dC.moves{N:Nat->Prop}(h:dC B w w')(hN:∀b,N b->B<=b):aQ N w N w':=fun b hb _=>⟨hb,fun _ _ hc=>h.cell (hN b hb) hc⟩
theorem dC.mono{B':Nat}(h:dC B w w')(hB:B<=B'):dC B' w w':=⟨h.1,fun b _ _ _ hb hc=>h.2 b _ _ _ (Nat.le_trans hB hb) hc⟩
theorem Gro.stays(he:fM enc)(h:Gro k T enc B l css v w)(hs:dC B w w'):Gro k T enc B l css v w':=by
 refine⟨?_,h.len,h.ks,fun i x c hx hc=>he _ _ _ _ _ _ (hs.moves fun b hb=>hb.1) (h.enc i x c hx hc),Nat.le_trans h.big hs.1⟩;obtain⟨h1,h2⟩:=h.own;refine⟨h1,?_⟩;rcases h2 with h2|⟨g,cap,cur,hv,hg,JU,r⟩
 ·exact .inl h2
 exact .inr ⟨g,cap,cur,hv,hg,hs.2 _ _ _ _ hg JU,r⟩
theorem Gro.later(he:fM enc)(h:Gro k T enc B l css v w)(hb:Below w.heap.size w w'):Gro k T enc B l css v w':=h.stays he (.of_below hb)
theorem Gro.added(he:fM enc)(h:Gro k T enc B l css v w){g cap:Nat}{x:α}{news:List Value}(hx:enc (nD B v) w x news)(hk:news.length=k)
  (pR:w'.ownsRow B T k (.slice (some ⟨g,0,none⟩) (l.length+1) cap) (l.length+1) (css.flatten++news)) (pM:w.grownBy w' v.ownBlock) (qV:v.ownBlock=some g\/g=w.heap.size):
  Gro k T enc B (l++[x]) (css++[news]) (.slice (some ⟨g,0,none⟩) (l.length+1) cap) w':=by
 have hm:aQ (nD B v) w (nD B (.slice (some ⟨g,0,none⟩) (l.length+1) cap)) w':=fun b hb qA=>by
  refine⟨⟨hb.1,fun e=>?_⟩,fun o u hu=>pM.cell hu (fun e=>hb.2 e.symm)⟩;have e2:g=b:=UG;subst e2;rcases qV with h1|h1
  ·exact hb.2 h1
  omega
 refine⟨by rw[List.length_append,List.flatten_append];simpa using pR,by simp[h.len],fun c hc=>?_,fun i y c hy hc=>?_,Nat.le_trans h.big pM.size⟩
 ·rcases List.mem_append.1 hc with h1|h1
  ·exact h.ks c h1
  rw[List.mem_singleton.1 h1];exact hk
 by_cases hi:i<l.length
 ·rw[List.getElem?_append_left hi] at hy;rw[List.getElem?_append_left (by rw[h.len];exact hi)] at hc;exact he _ _ _ _ _ _ hm (h.enc i y c hy hc)
 rw[List.getElem?_append_right RY] at hy;rw[List.getElem?_append_right (by rw[h.len];omega)] at hc
 have xS:i-l.length=0:=by
  rcases Nat.eq_zero_or_pos (i-l.length) with h0|h0
  ·exact h0
  rw[List.getElem?_eq_none (by rw[List.length_singleton];omega)] at hy;cases hy
 rw[xS] at hy;rw[h.len,xS] at hc;cases hy;cases hc;exact he _ _ _ _ _ _ hm hx
theorem Gro.row(he:fM enc)(h:Gro k T enc B l css v w):aO k enc (bO B) w v l:=by
 obtain⟨h1,h2⟩:=h.own;rcases h2 with⟨rfl,h0⟩|⟨g,cap,cur,rfl,hg,hgb,r1,r2,r3,r4⟩
 ·have:=List.eq_nil_of_length_eq_zero h0;subst this;exact aO.nil _ _ _ _
 refine⟨_,cap,rfl,r1,r2,fun _=>⟨g,0,rfl,hg,fun i x hx=>?_⟩⟩;have hi:=(Yb.1 hx).1;obtain⟨c,hc⟩:∃c,css[i]? =some c:=⟨_,List.getElem?_eq_getElem (by rw[h.len];exact hi)⟩;have hck:=h.ks c (List.mem_of_getElem? hc);refine⟨c,he _ _ _ _ _ _ (fun b hb _=>⟨hb.1,fun _ _ h=>h⟩) (h.enc i x c hx hc),hck,fun j u hu=>?_⟩;have hj:j<k:=by rw[<-hck];exact(Yb.1 hu).1
 have qA:i*k+j<l.length*k:=by
  have:(i+1)*k<=l.length*k:=Nat.mul_le_mul_right _ hi;rw[Nat.succ_mul] at this;omega
 have:=congrArg (fun t:List Value=>t[i*k+j]?) r4;simp only[List.getElem?_take,if_pos qA,flatten_at css h.ks i c j hc hj,hu] at this;have h2:cur[i*k+j]? =some u:=by simpa using this
 simp[World.cell?,hgb,h2]
theorem Gro.lt(h:Gro k T enc B l css v w):∀b,v.ownBlock=some b->B<=b/\b<w.heap.size:=h.own.lt
theorem Gro.val(h:Gro k T enc B l css v w):v=.slice none 0 0/\l=[]\/∃g cap,v=.slice (some ⟨g,0,none⟩) l.length cap/\B<=g/\g<w.heap.size:=by
 rcases h.own.2 with⟨rfl,h0⟩|⟨g,cap,cur,rfl,hg,hgb,-⟩
 ·exact .inl ⟨rfl,List.eq_nil_of_length_eq_zero h0⟩
 exact .inr ⟨g,cap,rfl,hg,(Array.getElem?_eq_some_iff.1 hgb).1⟩
end
def iD(_:Nat->Prop)(_:World)(x:bA)(cs:List Value):Prop:=cs=[.string x]/\x.size<=140737488355328
theorem bP:fM iD:=fun _ _ _ _ _ _ _ h=>h
theorem aO.strs{N:Nat->Prop}{w:World}{v:Value}{l:List bA}(h:aO 1 iD N w v l):Strs w v l:=by
 obtain⟨a,c,hv,h1,h2,h3⟩:=h;refine⟨a,c,hv,h1,h2,fun pQ=>?_⟩;obtain⟨b,o,ha,-,hc⟩:=h3 pQ;exact⟨b,o,ha,hc⟩
end Go.Proofs.YtiionicikdnnpaaGreatDoor
namespace Go.Proofs.YtiionicikdnnpaaGreatDoor
open Go.RowKit
abbrev tokCells(t:Tok):List Value:=[.int .i64 t.kind,.string t.text,.int .i64 t.n,.int .i64 t.pos]
def encTok(_:Nat->Prop)(_:World)(x:Tok)(cs:List Value):Prop:=cs=tokCells x/\x.text.size<=8000
theorem lM:fM encTok:=fun _ _ _ _ _ _ _ h=>h
theorem tokInfo:(Tryz.prog.info? 59).map (fun i=>(i.zero,i.size,i.bytes))=some (some (oBx18 0 ByteArray.empty 0 0),4,40):=RZ
structure LexSt (s:bA) (W:World) (i:Nat) (out:List Tok) (css:List (List Value)) (v:Value) (wr:World):Prop where
 acc:Gro 4 59 encTok W.heap.size out css v wr
 below:Below W.heap.size W wr
 len:out.length<=i
 le:i<=s.size
 rest:∃f,eK s (s.size+1) 0 []=eK s (f+1) i out/\s.size<=f+i
 ok:∀t,t∈out->t.kind≠3/\t.text.size<=s.size
def lexV(B:Nat)(s:bA)(r:Except (Int×Int) (List Tok))(e:Ending)(w':World):Prop:=match r with
 | .error x=>e=.returned (.tuple #[.slice none 0 0,.int .i64 x.1,.int .i64 x.2])
 | .ok l=>∃v,e=.returned (.tuple #[v,.int .i64 0,.int .i64 0])/\aO 4 encTok (bO B) w' v l/\TokOk s l
theorem nextV_err(e:Int):nG (.error e)=.tuple #[tokV 0 ⟨#[]⟩ 0 0,.int .i64 e]:=rfl
theorem nextV_ok(k n:Int)(t:bA):nG (.ok (k,t,n))=.tuple #[tokV k t n 0,.int .i64 0]:=rfl
theorem grown_belowB{u w w':World}{row:Option Nat}(h:Below u.heap.size u w)(hg:w.grownBy w' row)(hr:∀b,row=some b->u.heap.size<=b):Below u.heap.size u w':=
 ⟨hg.os.trans h.os,hg.tape.trans h.tape,hg.output.trans h.output,Nat.le_trans h.size hg.size,fun k hk=>(hg.block k (by have:=h.size;omega) (fun e=>by have:=hr k e.symm;omega)).trans (h.block k hk)⟩
theorem lex_any(s:bA)(w:World)(hs:s.size<=140737488355328)(hg:SignsAt w):
  Calls Tryz.prog 36 #[.string s] w fun e w'=>lexV w.heap.size s (lX s) e w'/\Below w.heap.size w w':=by
 obtain⟨i0,xS,xN,sG,rU⟩:=info_parts tokInfo;have HG:=zh hg;clear hg;by_cases tX:(8000:Int)<(s.size:Int)
 ·have HL:Hid (lX s=.error (0,6)):=zh (by unfold lX;rw[if_pos RY]);go_enter Tryz.func36,Tryz.ntmps36;go_wp2_with fail;refine bodyPost_ret (v:=.tuple #[.slice none 0 0,.int .i64 0,.int .i64 6]) UV rfl ⟨?_,Below.refl _ _⟩;rw[HL.out];rfl
 have sV:s.size<=8000:=RY;have HL:Hid (lX s=eK s (s.size+1) 0 []):=zh (by unfold lX;rw[if_neg RY]);go_enter Tryz.func36,Tryz.ntmps36;go_wp2_with fail;go_loopw [5,6] (fun v iv wr=>∃(i:Nat)(out:List Tok)(css:List (List Value)),iv=.int .i64 i/\Hid (LexSt s w i out css v wr)) (fun _ iv _=>s.size-(intOf iv).toNat)
 case atStart=>exact⟨0,[],[],rfl,zh ⟨Gro.first _ _ _ _,Below.refl _ _,Nat.le_refl _,Nat.zero_le _,⟨s.size,rfl,RY⟩,fun t h=>TY⟩⟩
 case round=>
  obtain⟨i,out,css,rfl,HS⟩:=hrel;rename World=>wr
  have hi:i<=s.size:=HS.out.le;obtain⟨f,hf,hfi⟩:=HS.out.rest;have HF:=zh hf;clear hf;have HR:Hid (eZ s i=s.extract i s.size):=zh rfl;have hn:=spanN_le cI (eZ s i).data.toList;rw[<-hZ,iO] at hn;have qI:=zh (span_any 99 cI (eZ s i) wr (by rw[iO];omega) enters_blank blank_any);rw[HR.out] at qI;have HE:=zh (fun h=>lexFrom_end (s:=s) (f:=f) (i:=i) (out:=out) h);have wC:=zh (fun e h hn=>lexFrom_bad (s:=s) (f:=f) (i:=i) (out:=out) (e:=e) h hn);have HOn:=zh (fun k n t h hn=>lexFrom_on (s:=s) (f:=f) (i:=i) (out:=out) (k:=k) (n:=n) (t:=t) h hn);rw[HR.out] at hn HE wC HOn;generalize cR cI (s.extract i s.size).data.toList=n at hn qI HE wC HOn;have I1:=HS.out.below.size;by_cases zG:i+n=s.size
  ·have hend2:(i:Int)+(n:Int)=(s.size:Int):=RY;have HEnd:=zh zG;(have hcap:out.length<=8000:=by have:=HS.out.len;omega);go_wp2_with(first|(go_at_call 98;refine qI.out.mono ?_;rintro e w' ⟨rfl,rfl⟩)|(at_builtin;refine wpList_append_lies _ rfl _ _ 54 rfl w.heap.size 59 i0 (oBx18 0 ByteArray.empty 0 0) 4 40 Tryz.underlying54 xS xN sG rU rfl RY _ out.length css.flatten TH (HS.out.acc.own.alloc _) ⟨wr.heap.size,0,none⟩ 1 1 [.int .i64 3,.string ⟨#[]⟩,.int .i64 0,.int .i64 (s.size:Int)] TH rfl (World.news_of_block (cs:=#[.int .i64 3,.string ⟨#[]⟩,.int .i64 0,.int .i64 (s.size:Int)]) (t:=59) (fr:=(0,0)) (bY wr _)) SG RY SH RY SX (wr.heap.size+1) R2 ?_));intro g cap w1 pR pM qV _;have HA:=HS.out.acc.later lM (aB wr (dI 3 ⟨#[]⟩ 0 (s.size:Int)));have OB:=zh ((HA.added lM (x:=⟨3,⟨#[]⟩,0,s.size⟩) ⟨rfl,Nat.zero_le _⟩ rfl pR pM VF).row lM);have AW:=zh (TokOk.of (s:=s) (out:=out) (p:=s.size) (by have:=HS.out.len;omega) HS.out.ok);have qL:=zh (grown_belowB (aA HS.out.below (aB wr (dI 3 ⟨#[]⟩ 0 (s.size:Int)))) pM (fun b hb=>(HA.lt b hb).1));clear pR pM qV HA;go_wp2_with fail;refine bodyPost_ret (v:=.tuple #[.slice (some ⟨g,0,none⟩) (out.length+1) cap,.int .i64 0,.int .i64 0]) UV rfl ⟨?_,qL.out⟩;rw[HL.out,HF.out,HE.out HEnd.out];exact⟨_,rfl,OB.out,AW.out⟩
  have hend2:¬(i:Int)+(n:Int)=(s.size:Int):=RY;have HEnd:=zh zG;have qA:i+n<s.size:=RY;have HC:Hid ((i:Int)+(n:Int)=((i+n:Nat):Int)):=zh RY;have sQ:0<(eZ s (i+n)).size:=by rw[iO];omega
  have HN:=zh (lexnext_any (eZ s (i+n)) wr (by rw[iO];omega) sQ (HG.out.later HS.out.below));have BR:=zh (fun k t n'=>nextTok_ok (s:=eZ s (i+n)) sQ (k:=k) (t:=t) (n:=n'));clear sQ
  cases hq:eR (eZ s (i+n)) with
  |error e0=>
   rw[hq,nextV_err] at HN;rw[show eZ s (i+n)=s.extract (i+n) s.size from rfl] at HN;have HQ:=zh (wC.out e0 zG hq);have BC:=nextTok_err hq;clear hq wC HOn HE BR;go_wp2_with(first|(go_at_call 98;refine qI.out.mono ?_;rintro e w' ⟨rfl,rfl⟩)|(go_at_call 100;refine HN.out.mono ?_;rintro e w' ⟨rfl,hb⟩));have qL:=zh (aA HS.out.below (aA hb (aB w' (dI 0 ⟨#[]⟩ 0 0))));refine bodyPost_ret (v:=.tuple #[.slice none 0 0,.int .i64 ((i:Int)+(n:Int)),.int .i64 e0]) UV rfl ⟨?_,qL.out⟩;rw[HL.out,HF.out,HQ.out,HC.out];rfl
  |ok r=>
   obtain⟨k,t,m⟩:=r;rw[hq,nextV_ok] at HN;rw[show eZ s (i+n)=s.extract (i+n) s.size from rfl] at HN;have HQ:=zh (HOn.out k m t zG hq);have HT:=zh (BR.out k t m hq);clear hq wC HOn HE BR;(have ht1:(i:Int)+(n:Int)+(t.size:Int)<=(s.size:Int):=by have:=HT.out.2.2;rw[iO] at this;omega);(have hcap:out.length<=8000:=by have:=HS.out.len;omega);go_wp2_with(first|(go_at_call 98;refine qI.out.mono ?_;rintro e w' ⟨rfl,rfl⟩)|(go_at_call 100;refine HN.out.mono ?_;rintro e w1 ⟨rfl,hb⟩;have HA:=zh (HS.out.acc.later lM hb);have hw1:=hb.size)|(at_builtin;refine wpList_append_lies _ rfl _ _ 54 rfl w.heap.size 59 i0 (oBx18 0 ByteArray.empty 0 0) 4 40 Tryz.underlying54 xS xN sG rU rfl RY _ out.length css.flatten TH ((HA.out.own.alloc _).alloc _) ⟨w1.heap.size+1,0,none⟩ 1 1 [.int .i64 k,.string t,.int .i64 m,.int .i64 ((i:Int)+(n:Int))] TH rfl (World.news_of_block (cs:=#[.int .i64 k,.string t,.int .i64 m,.int .i64 ((i:Int)+(n:Int))]) (t:=59) (fr:=(0,0)) (by simpa using bY (w1.alloc (dI k t m ((i:Int)+(n:Int)))) _)) SG RY SH RY SX (w1.heap.size+1+1) R2 ?_));intro g cap w2 pR pM qV _;have A0:=((HA.out.later lM (aB w1 (dI k t m ((i:Int)+(n:Int))))).later lM (aB _ (dI k t m ((i:Int)+(n:Int)))));(have htx:t.size<=8000:=by have:=HT.out.2.2;rw[iO] at this;omega);have OB:=zh (A0.added lM (x:=⟨k,t,m,((i+n:Nat):Int)⟩) ⟨by rw[HC.out],htx⟩ rfl pR pM VF);have qL:=zh (grown_belowB (aA HS.out.below (aA hb (aA (aB w1 (dI k t m ((i:Int)+(n:Int)))) (aB _ (dI k t m ((i:Int)+(n:Int))))))) pM (fun b hb=>(A0.lt b hb).1))
   have hcT:w2.cell? ⟨w1.heap.size,1,none⟩=some (.string t):=by
    refine pM.cell (aD (aB _ _) (v:=.string t) ?_) (fun e=>by have:=(HA.out.lt _ e.symm).2;simp at this);exact(cell_of_row _ w1.heap.size 1 _ _ _ (bY w1 _)).trans rfl
   clear pR pM qV A0 htx HA HN qI;go_wp2_with fail;go_roundw
   case rel=>
    refine⟨i+n+t.size,out++[⟨k,t,m,((i+n:Nat):Int)⟩],_,SK,zh ⟨OB.out,qL.out,?_,RY,?_,?_⟩⟩
    ·have h1:=HS.out.len;have h2:=HT.out.2.1;rw[List.length_append,List.length_singleton];omega
    ·obtain⟨f',hf'⟩:∃f',f=f'+1:=⟨f-1,RY⟩;subst hf';refine⟨f',by rw[HF.out,HQ.out],?_⟩;have h2:=HT.out.2.1;omega
    intro x hx;rcases List.mem_append.1 hx with h|h
    ·exact HS.out.ok x h
    rw[List.mem_singleton.1 h];refine⟨HT.out.1,?_⟩;have:=HT.out.2.2;rw[iO] at this;show t.size<=s.size;omega
   case measure=>have h2:=HT.out.2.1;simp[intOf];omega
abbrev tokVal(t:Tok):Value:=tokV t.kind t.text t.n t.pos
structure Prs where
 l:List Tok
 b:Nat
 o:Nat
 c:Nat
 pb:Nat
structure Prs.At (p:Prs) (w:World) (i:Nat):Prop where
 box:w.heap[p.pb]? =some (mF (some ⟨p.b,p.o,none⟩) p.l.length p.c (i:Int))
 toks:∀k t,p.l[k]? =some t->(w.cell? ⟨p.b,p.o+k*4,none⟩=some (.int .i64 t.kind)/\w.cell? ⟨p.b,p.o+k*4+1,none⟩=some (.string t.text)/\w.cell? ⟨p.b,p.o+k*4+2,none⟩=some (.int .i64 t.n)/\w.cell? ⟨p.b,p.o+k*4+3,none⟩=some (.int .i64 t.pos))/\t.text.size<=8000
 ne:p.b≠p.pb
 lt:i<p.l.length
 len:p.l.length<=8001
 cap:p.l.length<=p.c/\p.c<=9223372036854775807
 last:∀k t,p.l[k]? =some t->t.kind≠3->k+1<p.l.length
 glob:iF w
 spc:Lib.TabIs Tryz.prog w "strings.asciiSpace" .u8 Lib.asciiSpaceTab
 gne:∀k,k<11->k≠p.pb
abbrev Prs.v(p:Prs):Value:=.pointer (some ⟨p.pb,0,none⟩)
abbrev Prs.S(p:Prs):Nat->Prop:=fun k=>k=p.pb
section
variable {p:Prs} {w w':World} {i:Nat}
theorem iF.off{S:Nat->Prop}(h:iF w)(ho:Off S w w')(hS:∀k,k<11->¬S k):iF w':=by
 have hb:=h.big;refine⟨Nat.le_trans h.big ho.size,?_,?_,?_,fun i x hx=>ho.cell (hS _ RY) (h.signs i x hx),fun hw i x hx=>ho.cell (hS _ RY) (h.words hw i x hx)⟩
 ·obtain⟨m,hm⟩:=h.maxLen;exact⟨m,ho.cell (hS _ RY) hm⟩
 ·have:Below 11 w w':=⟨ho.os,ho.tape,ho.output,ho.size,fun k hk=>ho.block k RY (hS k hk)⟩;exact var?_below (g:=5) this RZ RY h.pow10
 have:Below 11 w w':=⟨ho.os,ho.tape,ho.output,ho.size,fun k hk=>ho.block k RY (hS k hk)⟩;exact var?_below (g:=1) this RZ RY h.spc
theorem spc_off{S:Nat->Prop}(h:Lib.TabIs Tryz.prog w "strings.asciiSpace" .u8 Lib.asciiSpaceTab)(hb:11<=w.heap.size)(ho:Off S w w')(hS:∀k,k<11->¬S k):Lib.TabIs Tryz.prog w' "strings.asciiSpace" .u8 Lib.asciiSpaceTab:=by
 have:Below 11 w w':=⟨ho.os,ho.tape,ho.output,ho.size,fun k hk=>ho.block k RY (hS k hk)⟩;exact var?_below (g:=1) this RZ RY h
theorem Prs.At.blt(h:p.At w i):p.pb<w.heap.size:=(Array.getElem?_eq_some_iff.1 h.box).1
theorem Prs.At.tok(h:p.At w i):p.l[i]? =some (aI p.l i):=by
 unfold aI;rw[List.getD_eq_getElem?_getD,List.getElem?_eq_getElem h.lt];rfl
theorem Prs.At.later(h:p.At w i)(hb:Below w.heap.size w w'):p.At w' i:=
 ⟨(hb.block _ h.blt).trans h.box,fun k t hk=>by
  obtain⟨⟨a1,a2,a3,a4⟩,a5⟩:=h.toks k t hk
  exact⟨⟨aD hb a1,aD hb a2,aD hb a3,aD hb a4⟩,a5⟩,h.ne,h.lt,h.len,h.cap,h.last,h.glob.later hb,spc_off h.spc h.glob.big (Ba (S:=fun _=>False) hb) (fun _ _ h=>h),h.gne⟩
theorem Prs.At.off{S:Nat->Prop}(h:p.At w i)(ho:Off S w w')(h1:¬S p.pb)(h2:¬S p.b)(h3:∀k,k<11->¬S k):p.At w' i:=
 ⟨ho.heap h1 h.box,fun k t hk=>by
  obtain⟨⟨a1,a2,a3,a4⟩,a5⟩:=h.toks k t hk
  exact⟨⟨ho.cell h2 a1,ho.cell h2 a2,ho.cell h2 a3,ho.cell h2 a4⟩,a5⟩,h.ne,h.lt,h.len,h.cap,h.last,h.glob.off ho h3,spc_off h.spc h.glob.big ho h3,h.gne⟩
theorem Prs.At.box0(h:p.At w i):w.cell? ⟨p.pb,0,none⟩=some (.slice (some ⟨p.b,p.o,none⟩) p.l.length p.c):=by simp[World.cell?,h.box]
theorem Prs.At.box1(h:p.At w i):w.cell? ⟨p.pb,1,none⟩=some (.int .i64 (i:Int)):=by simp[World.cell?,h.box]
theorem Prs.At.froz(h:p.At w i):w.frozen? ⟨p.pb,1,none⟩=false:=by simp[World.frozen?,h.box]
theorem Prs.At.step(h:p.At w i)(hl:i+1<p.l.length):p.At (w.setCell ⟨p.pb,1,none⟩ (.int .i64 ((i:Int)+1))) (i+1)/\Off p.S w (w.setCell ⟨p.pb,1,none⟩ (.int .i64 ((i:Int)+1))):=by
 have ho:Off p.S w (w.setCell ⟨p.pb,1,none⟩ (.int .i64 ((i:Int)+1))):=Off.setCell w rfl;refine⟨⟨?_,fun k t hk=>?_,h.ne,hl,h.len,h.cap,h.last,h.glob.off ho (fun k hk=>h.gne k hk),spc_off h.spc h.glob.big ho (fun k hk=>h.gne k hk),h.gne⟩,ho⟩
 ·rw[aU h.box,Int.natCast_add,Int.natCast_one];rfl
 obtain⟨⟨a1,a2,a3,a4⟩,a5⟩:=h.toks k t hk;exact⟨⟨ho.cell h.ne a1,ho.cell h.ne a2,ho.cell h.ne a3,ho.cell h.ne a4⟩,a5⟩
end
abbrev faultE(x:Int×Int):Ending:=.panicked [{v:=.iface 144 (.agg #[.int .i64 x.1,.int .i64 x.2]),recovered:=false}]
def Ran{α:Type}(S:Nat->Prop)(w:World)(r:PR α)(V:α->Nat->Ending->World->Prop)(e:Ending)(w':World):Prop:=
 (∃x:Int×Int,r=.error x/\e=.panicked [{v:=.iface 144 (.agg #[.int .i64 x.1,.int .i64 x.2]),recovered:=false}]/\Off S w w')\/(∃a j,r=.ok (a,j)/\V a j e w'/\Off S w w')
theorem Ran.bad{α:Type}{S:Nat->Prop}{w w':World}{r:PR α}{V:α->Nat->Ending->World->Prop}{p e:Int}(hr:r=.error (p,e))(ho:Off S w w'):
  Ran S w r V (.panicked [{v:=.iface 144 (.agg #[.int .i64 p,.int .i64 e]),recovered:=false}]) w':=.inl ⟨(p,e),hr,rfl,ho⟩
theorem Ran.good{α:Type}{S:Nat->Prop}{w w':World}{r:PR α}{V:α->Nat->Ending->World->Prop}{a:α}{j:Nat}{e:Ending}(hr:r=.ok (a,j))(hv:V a j e w')(ho:Off S w w'):Ran S w r V e w':=.inr ⟨a,j,hr,hv,ho⟩
theorem cQ(p:Prs)(w:World)(i:Nat)(h:p.At w i):Calls Tryz.prog 50 #[.pointer (some ⟨p.pb,0,none⟩)] w fun e w'=>e=.returned (oBx18 (aI p.l i).kind (aI p.l i).text (aI p.l i).n (aI p.l i).pos)/\Below w.heap.size w w':=by
 have h2:=h.later (aB w (dI 0 ⟨#[]⟩ 0 0));obtain⟨⟨c1,c2,c3,c4⟩,-⟩:=h.toks i _ h.tok;have b0:=h.box0;have b1:=h.box1;obtain⟨⟨d1,d2,d3,d4⟩,-⟩:=h2.toks i _ h2.tok;have e0:=h2.box0;have e1:=h2.box1;have qA:i<p.l.length:=h.lt;have hin:(0:Int)<=(i:Int)/\(i:Int)<(p.l.length:Int):=RY;generalize aI p.l i=t at c1 c2 c3 c4 d1 d2 d3 d4 ⊢;clear h h2;obtain⟨l,b,o,c,pb⟩:=p;simp only at *;go_enter Tryz.func50,Tryz.ntmps50
 go_wp2
 go_region
 go_wp2
 refine bodyPost_ret (v:=tokVal t) (by simp[results,Tryz.results50,go_sem]) rfl ⟨rfl,?_⟩;exact(aB _ _).drew
theorem tokF0(w:World)(a b c d:Value):(Instr.field 59 (.agg #[a,b,c,d]) 0).run Tryz.prog w=.ok a w:=RZ
theorem tokF1(w:World)(a b c d:Value):(Instr.field 59 (.agg #[a,b,c,d]) 1).run Tryz.prog w=.ok b w:=RZ
theorem tokF3(w:World)(a b c d:Value):(Instr.field 59 (.agg #[a,b,c,d]) 3).run Tryz.prog w=.ok d w:=RZ
theorem stop_any(p:Prs)(w:World)(i:Nat)(e:Int)(h:p.At w i):Calls Tryz.prog 136 #[.pointer (some ⟨p.pb,0,none⟩),.int .i64 e] w fun en w'=>en=faultE ((aI p.l i).pos,e)/\Below w.heap.size w w':=by
 have HN:=zh (cQ p w i h);clear h;generalize aI p.l i=t at HN ⊢;obtain⟨l,b,o,c,pb⟩:=p;have F3:=tokF3;go_enter Tryz.func136,Tryz.ntmps136;go_wp2_with(go_at_call 50;refine HN.out.mono ?_;rintro e' w' ⟨rfl,hb⟩);exact⟨rfl,rfl,hb⟩
theorem lP(p:Prs)(w:World)(e:Int):Calls Tryz.prog 49 #[.pointer (some ⟨p.pb,0,none⟩),.bool true,.int .i64 e] w fun en w'=>en=.returned (.tuple #[])/\w=w':=by
 obtain⟨l,b,o,c,pb⟩:=p;go_enter Tryz.func49,Tryz.ntmps49;go_wp2_with fail;go_end0;exact⟨rfl,rfl⟩
theorem mA(p:Prs)(w:World)(i:Nat)(e:Int)(h:p.At w i):Calls Tryz.prog 49 #[.pointer (some ⟨p.pb,0,none⟩),.bool false,.int .i64 e] w fun en w'=>en=faultE ((aI p.l i).pos,e)/\Below w.heap.size w w':=by
 have HN:=zh (stop_any p w i e h);clear h;generalize aI p.l i=t at HN ⊢;obtain⟨l,b,o,c,pb⟩:=p;go_enter Tryz.func49,Tryz.ntmps49;go_wp2_with(go_at_call 136;refine HN.out.mono ?_;rintro e' w' ⟨rfl,hb⟩);exact⟨rfl,rfl,hb⟩
theorem fZ(p:Prs)(w:World)(i:Nat)(b:Bool)(e:Int)(h:p.At w i):Calls Tryz.prog 49 #[.pointer (some ⟨p.pb,0,none⟩),.bool b,.int .i64 e] w fun en w'=>(b=true/\en=.returned (.tuple #[])/\w=w')\/(b=false/\en=faultE ((aI p.l i).pos,e)/\Below w.heap.size w w'):=by
 cases b with
 |true=>exact(lP p w e).mono fun en w' h=>.inl ⟨rfl,h⟩
 |false=>exact(mA p w i e h).mono fun en w' h=>.inr ⟨rfl,h⟩
theorem gJ(p:Prs)(w:World)(i:Nat)(s:bA)(h:p.At w i):Calls Tryz.prog 112 #[.pointer (some ⟨p.pb,0,none⟩),.string s] w fun e w'=>e=.returned (.bool (isP p.l i s))/\Below w.heap.size w w':=by
 have HA:=zh h;have HN:=zh (fun W(hW:p.At W i)=>cQ p W i hW);have HI:Hid (isP p.l i s=(decide ((aI p.l i).kind≠3)&&decide ((aI p.l i).text=s))):=zh rfl;clear h;generalize isP p.l i s=q at HI ⊢;generalize aI p.l i=t at HN HI;have F0:=tokF0;have F1:=tokF1;by_cases hk:t.kind=3
 ·go_enter Tryz.func112,Tryz.ntmps112;go_wp2_with(go_at_call 50;refine(HN.out w HA.out).mono ?_;rintro e w1 ⟨rfl,pO⟩);go_ret;exact⟨aE (by rw[HI.out,decide_eq_false (by simp[hk])];rfl),pO⟩
 have JS:(t.kind != 3)=true:=by rw[bne_iff_ne];exact hk
 go_enter Tryz.func112,Tryz.ntmps112;go_wp2_with(first|(go_at_call 50;refine(HN.out w HA.out).mono ?_;rintro e w1 ⟨rfl,pO⟩;have D3:=zh (HA.out.later pO))|(go_at_call 50;refine(HN.out w1 D3.out).mono ?_;rintro e w2 ⟨rfl,pN⟩));go_ret;exact⟨aE (by rw[HI.out,decide_eq_true hk,eE];rfl),aA pO pN⟩
end Go.Proofs.YtiionicikdnnpaaGreatDoor
namespace Go.Proofs.YtiionicikdnnpaaGreatDoor
open Go.RowKit
theorem PT{p:Prop}(h:p:=by
 obtain⟨m,hm⟩:=hg.maxLen;have HW:=zh (word_any s w RY);have HC:=zh (Tryz.strings_Contains kT ((bs [32]++s)++bs [32]) m w (by rw[reserved_size];decide) hm);have HN:Hid (aM s=(eT s&& !Lib.contains kT.data.toList ((bs [32]++s)++bs [32]).data.toList)):=zh rfl;clear hm hg;generalize Lib.contains kT.data.toList ((bs [32]++s)++bs [32]).data.toList=q at HC HN
 cases hw:eT s with
 |false=>
  rw[hw] at HW HN;clear hw;go_enter Tryz.func17,Tryz.ntmps17;go_wp2_with(go_at_call 59;refine HW.out.mono ?_;rintro e w1 ⟨rfl,rfl⟩);go_ret;exact⟨aE (by rw[HN.out];rfl),rfl⟩
 |true=>
  rw[hw] at HW HN;clear hw;go_enter Tryz.func17,Tryz.ntmps17;go_wp2_with(first|(go_at_call 59;refine HW.out.mono ?_;rintro e w1 ⟨rfl,rfl⟩)|(go_at_call 60;refine HC.out.mono ?_;rintro e w2 ⟨rfl,rfl⟩));go_ret
  exact⟨aE (by rw[HN.out];rfl),rfl⟩):p:=h
section
variable {p:Prs} {w:World} {i:Nat} {s:bA}
theorem isP_lt(h:p.At w i)(hq:isP p.l i s=true):i+1<p.l.length:=by
 refine h.last i _ h.tok ?_;unfold isP at hq;simp only[Bool.and_eq_true,decide_eq_true_eq] at hq;exact hq.1
theorem isNameP_lt(h:p.At w i)(hq:cG p.l i=true):i+1<p.l.length:=by
 refine h.last i _ h.tok ?_;unfold cG at hq;simp only[Bool.and_eq_true,decide_eq_true_eq] at hq;omega
theorem Prs.At.bound(h:p.At w i):(0:Int)<=(i:Int)/\(i:Int)<8001:=by have:=h.lt;have:=h.len;omega
end
theorem fY(p:Prs)(w:World)(i:Nat)(s:bA)(h:p.At w i)(hq:isP p.l i s=true):
  Calls Tryz.prog 120 #[.pointer (some ⟨p.pb,0,none⟩),.string s] w fun e w'=>e=.returned (.bool true)/\p.At w' (i+1)/\Off p.S w w':=by
 have HA:=zh h;have HI:=zh (gJ p w i s h);rw[hq] at HI;have hl:=isP_lt h hq;have hb:=h.bound;clear h hq;go_enter Tryz.func120,Tryz.ntmps120;go_wp2_with(go_at_call 112;refine HI.out.mono ?_;rintro e w1 ⟨rfl,pO⟩;have D3:=zh (HA.out.later pO);have b1:=D3.out.box1;have f1:=D3.out.froz);go_ret;exact⟨rfl,(D3.out.step hl).1,(Ba pO).trans (D3.out.step hl).2⟩
theorem bI(p:Prs)(w:World)(i:Nat)(s:bA)(h:p.At w i)(hq:isP p.l i s=false):
  Calls Tryz.prog 120 #[.pointer (some ⟨p.pb,0,none⟩),.string s] w fun e w'=>e=.returned (.bool false)/\p.At w' i/\Off p.S w w':=by
 have HA:=zh h;have HI:=zh (gJ p w i s h);rw[hq] at HI;clear h hq;go_enter Tryz.func120,Tryz.ntmps120;go_wp2_with(go_at_call 112;refine HI.out.mono ?_;rintro e w1 ⟨rfl,pO⟩);go_ret;exact⟨rfl,HA.out.later pO,Ba pO⟩
theorem mN(p:Prs)(w:World)(i:Nat)(s:bA)(h:p.At w i):
  Calls Tryz.prog 120 #[.pointer (some ⟨p.pb,0,none⟩),.string s] w fun e w'=>e=.returned (.bool (isP p.l i s))/\p.At w' (if isP p.l i s then i+1 else i)/\Off p.S w w':=by
 cases hq:isP p.l i s with
 |true=>exact fY p w i s h hq
 |false=>exact bI p w i s h hq
theorem dK(p:Prs)(w:World)(i:Nat)(s:bA)(h:p.At w i):
  Calls Tryz.prog 110 #[.pointer (some ⟨p.pb,0,none⟩),.string s] w (Ran p.S w (dD p.l i s) fun _ j e w'=>e=.returned (.tuple #[])/\p.At w' j):=by
 cases hq:isP p.l i s with
 |true=>
  have HW:Hid (dD p.l i s=.ok ((),i+1)):=zh (by unfold dD;rw[hq];rfl);have HH:=zh (fY p w i s h hq);clear h hq;go_enter Tryz.func110,Tryz.ntmps110;go_wp2_with(first|(go_at_call 120;refine HH.out.mono ?_;rintro e w1 ⟨rfl,qP,qE⟩)|(go_at_call 49;refine(lP p _ _).mono ?_;rintro e w2 ⟨rfl,rfl⟩));go_end0;exact Ran.good HW.out ⟨rfl,qP⟩ qE
 |false=>
  have HW:Hid (dD p.l i s=.error ((aI p.l i).pos,11)):=zh (by unfold dD;rw[hq];rfl);have HH:=zh (bI p w i s h hq);clear h hq;go_enter Tryz.func110,Tryz.ntmps110;go_wp2_with(first|(go_at_call 120;refine HH.out.mono ?_;rintro e w1 ⟨rfl,qP,qE⟩)|(go_at_call 49;refine(mA p _ i _ qP).mono ?_;rintro e w2 ⟨rfl,pN⟩));exact⟨rfl,Ran.bad HW.out (qE.trans (Ba pN))⟩
theorem end_any(p:Prs)(w:World)(i:Nat)(fits:Bool)(s:bA)(h:p.At w i):
  Calls Tryz.prog 116 #[.pointer (some ⟨p.pb,0,none⟩),.bool fits,.string s] w (Ran p.S w (kL p.l i fits s) fun _ j e w'=>e=.returned (.tuple #[])/\p.At w' j):=by
 have HI:=zh (gJ p w i s h);have HA:=zh h;have hb:=h.bound
 cases hq:isP p.l i s with
 |false=>
  have HW:Hid (kL p.l i fits s=.error ((aI p.l i).pos,11)):=zh (by unfold kL;rw[hq];rfl);rw[hq] at HI;clear h hq;go_enter Tryz.func116,Tryz.ntmps116;go_wp2_with(first|(go_at_call 112;refine HI.out.mono ?_;rintro e w1 ⟨rfl,pO⟩;have qP:=zh (HA.out.later pO))|(go_at_call 49;refine(mA p _ i _ qP.out).mono ?_;rintro e w2 ⟨rfl,pN⟩));exact⟨rfl,Ran.bad HW.out (Ba (aA pO pN))⟩
 |true=>
  have hl:=isP_lt h hq
  cases fits with
  |false=>
   have HW:Hid (kL p.l i false s=.error ((aI p.l i).pos,6)):=zh (by unfold kL;rw[hq];rfl);rw[hq] at HI;clear h hq;go_enter Tryz.func116,Tryz.ntmps116;go_wp2_with(first|(go_at_call 112;refine HI.out.mono ?_;rintro e w1 ⟨rfl,pO⟩;have qP:=zh (HA.out.later pO))|(go_at_call 49;refine(fZ p _ i _ _ qP.out).mono ?_;rintro e w2 (⟨he,rfl,rfl⟩|⟨he,rfl,pN⟩)<;>first|(cases he;done)|skip));exact⟨rfl,Ran.bad HW.out (Ba (aA pO pN))⟩
  |true=>
   have HW:Hid (kL p.l i true s=.ok ((),i+1)):=zh (by unfold kL;rw[hq];rfl);rw[hq] at HI;clear h hq;go_enter Tryz.func116,Tryz.ntmps116;go_wp2_with(first|(go_at_call 112;refine HI.out.mono ?_;rintro e w1 ⟨rfl,pO⟩;have qP:=zh (HA.out.later pO);have b1:=qP.out.box1;have f1:=qP.out.froz)|(go_at_call 49;refine(lP p _ _).mono ?_;rintro e w2 ⟨rfl,rfl⟩));go_end0;exact Ran.good HW.out ⟨rfl,(qP.out.step hl).1⟩ ((Ba pO).trans (qP.out.step hl).2)
theorem reserved_size:kT.size=124:=RZ
theorem iX(s:bA)(w:World)(hs:s.size<=16000)(hg:iF w):
  Calls Tryz.prog 17 #[.string s] w fun e w'=>e=.returned (.bool (aM s))/\w=w':=by
 exact PT
end Go.Proofs.YtiionicikdnnpaaGreatDoor
namespace Go.Proofs.YtiionicikdnnpaaGreatDoor
open Go.RowKit
theorem P3{p:Prop}(h:p:=by
 go_wp2_with(first|(go_at_call 182;refine HI.out.mono ?_;rintro e w1 ⟨rfl,pO⟩;have qP:=zh (HA.out.later pO))|(go_at_call 49;refine(mA p _ i _ qP.out).mono ?_;rintro e w2 ⟨rfl,pN⟩))
 exact⟨rfl,Ran.bad HW.out (Ba (aA pO pN))⟩):p:=h
theorem iC(p:Prs)(w:World)(i:Nat)(h:p.At w i):Calls Tryz.prog 182 #[.pointer (some ⟨p.pb,0,none⟩)] w fun e w'=>e=.returned (.bool (cG p.l i))/\Below w.heap.size w w':=by
 have HA:=zh h;have HN:=zh (fun W(hW:p.At W i)=>cQ p W i hW);have sV:=(h.toks i _ h.tok).2;have HM:=zh (fun W(hW:p.At W i)=>iX (aI p.l i).text W RY hW.glob);have HI:Hid (cG p.l i=(decide ((aI p.l i).kind=0)&&aM (aI p.l i).text)):=zh rfl;clear h sV;generalize cG p.l i=q at HI ⊢;generalize aI p.l i=t at HN HI HM;have F0:=tokF0;have F1:=tokF1;by_cases hk:t.kind=0
 ·go_enter Tryz.func182,Tryz.ntmps182;go_wp2_with(first|(go_at_call 50;refine(HN.out w HA.out).mono ?_;rintro e w1 ⟨rfl,pO⟩;have D3:=zh (HA.out.later pO))|(go_at_call 50;refine(HN.out w1 D3.out).mono ?_;rintro e w2 ⟨rfl,pN⟩;have A0:=zh (D3.out.later pN))|(go_at_call 17;refine(HM.out w2 A0.out).mono ?_;rintro e w3 ⟨rfl,rfl⟩));go_ret;exact⟨aE (by rw[HI.out,decide_eq_true hk];rfl),aA pO pN⟩
 have JS:(t.kind==0)=false:=by rw[beq_eq_false_iff_ne];exact hk
 go_enter Tryz.func182,Tryz.ntmps182;go_wp2_with(go_at_call 50;refine(HN.out w HA.out).mono ?_;rintro e w1 ⟨rfl,pO⟩);go_ret;exact⟨aE (by rw[HI.out,decide_eq_false hk];rfl),pO⟩
theorem Prs.At.stepped{p:Prs}{w:World}{i:Nat}(h:p.At w i)(hl:i+1<p.l.length):
  (w.setCell ⟨p.pb,1,none⟩ (.int .i64 ((i:Int)+1))).cell? ⟨p.pb,0,none⟩=some (.slice (some ⟨p.b,p.o,none⟩) p.l.length p.c)/\(w.setCell ⟨p.pb,1,none⟩ (.int .i64 ((i:Int)+1))).cell? ⟨p.pb,1,none⟩=some (.int .i64 ((i:Int)+1))/\
  (w.setCell ⟨p.pb,1,none⟩ (.int .i64 ((i:Int)+1))).cell? ⟨p.b,p.o+i*4+1,none⟩=some (.string (aI p.l i).text):=by
 have h2:=(h.step hl).1;have ht:p.l[i]? =some (aI p.l i):=h.tok;exact⟨h2.box0,by simpa using h2.box1,(h2.toks i _ ht).1.2.1⟩
theorem aF(w:World):Below w.heap.size w w.drew:=(Below.refl _ _).drew
theorem fV(p:Prs)(w:World)(i:Nat)(h:p.At w i):
  Calls Tryz.prog 111 #[.pointer (some ⟨p.pb,0,none⟩)] w (Ran p.S w (fC p.l i) fun a j e w'=>e=.returned (.string a)/\p.At w' j/\a.size<=8000):=by
 have HA:=zh h;have HI:=zh (iC p w i h);have hb:=h.bound;have sV:=zh (h.toks i _ h.tok).2
 cases hq:cG p.l i with
 |false=>
  have HW:Hid (fC p.l i=.error ((aI p.l i).pos,11)):=zh U9;rw[hq] at HI;clear h hq;go_enter Tryz.func111,Tryz.ntmps111;exact P3
 |true=>
  have hl:=isNameP_lt h hq;have HW:Hid (fC p.l i=.ok ((aI p.l i).text,i+1)):=zh U9;rw[hq] at HI;have hin:(0:Int)<=(i:Int)/\(i:Int)<(p.l.length:Int):=RY;clear h hq;go_enter Tryz.func111,Tryz.ntmps111;go_wp2_with(first|(go_at_call 182;refine HI.out.mono ?_;rintro e w1 ⟨rfl,pO⟩;have qP:=zh (HA.out.later pO);have b1:=qP.out.box1;have f1:=qP.out.froz)|(go_at_call 49;refine(lP p _ _).mono ?_;rintro e w2 ⟨rfl,rfl⟩;obtain⟨d0,d1,d2⟩:=qP.out.stepped hl));go_region
  go_wp2_with fail;go_ret;exact Ran.good HW.out ⟨rfl,(qP.out.step hl).1.later (aF _),sV.out⟩ ((Ba pO).trans (qP.out.step hl).2).drew
mutual
def bJ(N:Nat->Prop)(w:World):Xp->List Value->Prop
 | .mk op n s m names args,cs=>∃vn va,cs=[.int .i64 op,.int .i64 n,.string s,.string m,vn,va]/\s.size<=8000/\m.size<=8000/\aO 1 iD N w vn names/\
   ∃a c,va=.slice a args.length c/\args.length<=c/\c<=9223372036854775807/\(args≠[]->∃b o,a=some ⟨b,o,none⟩/\N b/\encXs N w b o args)
def encXs(N:Nat->Prop)(w:World)(b:Nat):Nat->List Xp->Prop
 |_,[]=>True
 |o,x::r=>(∃cs,bJ N w x cs/\cs.length=6/\∀j u,cs[j]? =some u->w.cell? ⟨b,o+j,none⟩=some u)/\encXs N w b (o+6) r
end
mutual
def gB(N:Nat->Prop)(w:World):Ty->List Value->Prop
 | .mk kind fields,cs=>∃vf,cs=[.int .i64 kind,vf]/\∃a c,vf=.slice a fields.length c/\fields.length<=c/\c<=9223372036854775807/\(fields≠[]->∃b o,a=some ⟨b,o,none⟩/\N b/\encFs N w b o fields)
def encFs(N:Nat->Prop)(w:World)(b:Nat):Nat->List (bA×Ty)->Prop
 |_,[]=>True
 |o,(n,t)::r=>(w.cell? ⟨b,o,none⟩=some (.string n)/\n.size<=8000/\∃cs,gB N w t cs/\∀j u,cs[j]? =some u->w.cell? ⟨b,o+1+j,none⟩=some u)/\encFs N w b (o+3) r
end
def fH(N:Nat->Prop)(w:World)(f:Fld)(cs:List Value):Prop:=∃ct,cs=.string f.1::ct/\f.1.size<=8000/\gB N w f.2 ct
section
variable {N N':Nat->Prop} {w w':World}
theorem encXs_iff(b:Nat):∀(l:List Xp)(o:Nat),encXs N w b o l↔∀i x,l[i]? =some x->∃cs,bJ N w x cs/\cs.length=6/\∀j u,cs[j]? =some u->w.cell? ⟨b,o+i*6+j,none⟩=some u
 |[],o=>by simp[encXs]
 |x::r,o=>by
  unfold encXs;rw[encXs_iff b r (o+6)];constructor
  ·rintro⟨h1,h2⟩ i y hy
   cases i with
   |zero=>simp at hy;subst hy;simpa using h1
   |succ i=>
    obtain⟨cs,a1,a2,a3⟩:=h2 i y VE;exact⟨cs,a1,a2,fun j u hu=>by have:=a3 j u hu;rw[show o+(i+1)*6+j=o+6+i*6+j by omega];exact this⟩
  intro h;refine⟨by simpa using h 0 x rfl,fun i y hy=>?_⟩;obtain⟨cs,a1,a2,a3⟩:=h (i+1) y VE;exact⟨cs,a1,a2,fun j u hu=>by have:=a3 j u hu;rw[show o+6+i*6+j=o+(i+1)*6+j by omega];exact this⟩
theorem aW(op n:Int)(s m:bA)(names:List bA)(args:List Xp)(cs:List Value):bJ N w (.mk op n s m names args) cs↔
  ∃vn va,cs=[.int .i64 op,.int .i64 n,.string s,.string m,vn,va]/\s.size<=8000/\m.size<=8000/\aO 1 iD N w vn names/\aO 6 bJ N w va args:=by
 unfold bJ aO;simp only[encXs_iff]
mutual
theorem encX_moves(hm:aQ N w N' w'):∀(x:Xp)(cs:List Value),bJ N w x cs->bJ N' w' x cs
 | .mk op n s m names args,cs,h=>by
  unfold bJ at h ⊢;obtain⟨vn,va,hc,h1,h2,h3,a,c,h4,h5,h6,h7⟩:=h;refine⟨vn,va,hc,h1,h2,h3.moves bP hm R0,a,c,h4,h5,h6,fun pQ=>?_⟩;obtain⟨b,o,ha,hb,hx⟩:=h7 pQ
  have qA:b<w.heap.size:=by
   cases args with
   |nil=>exact absurd rfl pQ
   |cons x r=>
    unfold encXs at hx;obtain⟨⟨cs,-,hl,hj⟩,-⟩:=hx;exact jK (hj 0 (cs[0]' RY) (List.getElem?_eq_getElem _))
  exact⟨b,o,ha,(hm b hb qA).1,encXs_moves hm b hb qA args o hx⟩
theorem encXs_moves(hm:aQ N w N' w')(b:Nat)(hb:N b)(qA:b<w.heap.size):∀(l:List Xp)(o:Nat),encXs N w b o l->encXs N' w' b o l
 |[],_,_=>by unfold encXs;trivial
 |x::r,o,h=>by
  unfold encXs at h ⊢;obtain⟨⟨cs,h1,h2,h3⟩,h4⟩:=h;exact⟨⟨cs,encX_moves hm x cs h1,h2,fun j u hu=>(hm b hb qA).2 _ _ (h3 j u hu)⟩,encXs_moves hm b hb qA r (o+6) h4⟩
end
theorem aH:fM bJ:=fun _ _ _ _ x cs hm h=>encX_moves hm x cs h
theorem encT_len:∀{t:Ty}{cs:List Value},gB N w t cs->cs.length=2
 | .mk _ _,_,h=>by unfold gB at h;obtain⟨vf,rfl,-⟩:=h;rfl
theorem encFs_iff(b:Nat):∀(l:List Fld)(o:Nat),encFs N w b o l↔∀i x,l[i]? =some x->∃cs,fH N w x cs/\cs.length=3/\∀j u,cs[j]? =some u->w.cell? ⟨b,o+i*3+j,none⟩=some u
 |[],o=>by simp[encFs]
 |(n,t)::r,o=>by
  unfold encFs;rw[encFs_iff b r (o+3)];constructor
  ·rintro⟨⟨h0,hn,ct,h1,h3⟩,h2⟩ i y hy
   cases i with
   |zero=>
    simp at hy;subst hy;refine⟨.string n::ct,⟨ct,rfl,hn,h1⟩,by simp[encT_len h1],fun j u hu=>?_⟩
    cases j with
    |zero=>simp at hu;subst hu;simpa using h0
    |succ j=>have:=h3 j u (by simpa using hu);rw[show o+0*3+(j+1)=o+1+j by omega];exact this
   |succ i=>
    obtain⟨cs,a1,a2,a3⟩:=h2 i y VE;exact⟨cs,a1,a2,fun j u hu=>by have:=a3 j u hu;rw[show o+(i+1)*3+j=o+3+i*3+j by omega];exact this⟩
  intro h;refine⟨?_,fun i y hy=>?_⟩
  ·obtain⟨cs,⟨ct,rfl,hn,h1⟩,-,a3⟩:=h 0 (n,t) rfl;refine⟨by simpa using a3 0 (.string n) rfl,hn,ct,h1,fun j u hu=>?_⟩;have:=a3 (j+1) u (by simpa using hu);rw[show o+1+j=o+0*3+(j+1) by omega];exact this
  obtain⟨cs,a1,a2,a3⟩:=h (i+1) y VE;exact⟨cs,a1,a2,fun j u hu=>by have:=a3 j u hu;rw[show o+3+i*3+j=o+(i+1)*3+j by omega];exact this⟩
theorem fE(kind:Int)(fields:List Fld)(cs:List Value):gB N w (.mk kind fields) cs↔∃vf,cs=[.int .i64 kind,vf]/\aO 3 fH N w vf fields:=by
 unfold gB aO;simp only[encFs_iff]
mutual
theorem encT_moves(hm:aQ N w N' w'):∀(t:Ty)(cs:List Value),gB N w t cs->gB N' w' t cs
 | .mk kind fields,cs,h=>by
  unfold gB at h ⊢;obtain⟨vf,hc,a,c,h4,h5,h6,h7⟩:=h;refine⟨vf,hc,a,c,h4,h5,h6,fun pQ=>?_⟩;obtain⟨b,o,ha,hb,hx⟩:=h7 pQ
  have qA:b<w.heap.size:=by
   cases fields with
   |nil=>exact absurd rfl pQ
   |cons x r=>
    obtain⟨n,t⟩:=x;unfold encFs at hx;exact jK hx.1.1
  exact⟨b,o,ha,(hm b hb qA).1,encFs_moves hm b hb qA fields o hx⟩
theorem encFs_moves(hm:aQ N w N' w')(b:Nat)(hb:N b)(qA:b<w.heap.size):∀(l:List (bA×Ty))(o:Nat),encFs N w b o l->encFs N' w' b o l
 |[],_,_=>by unfold encFs;trivial
 |(n,t)::r,o,h=>by
  unfold encFs at h ⊢;obtain⟨⟨h0,hn,cs,h1,h3⟩,h4⟩:=h;exact⟨⟨(hm b hb qA).2 _ _ h0,hn,cs,encT_moves hm t cs h1,fun j u hu=>(hm b hb qA).2 _ _ (h3 j u hu)⟩,encFs_moves hm b hb qA r (o+3) h4⟩
end
theorem dM:fM gB:=fun _ _ _ _ x cs hm h=>encT_moves hm x cs h
theorem aT:fM fH:=fun _ _ _ _ x cs hm h=>by
 obtain⟨ct,h1,h2,h3⟩:=h;exact⟨ct,h1,h2,encT_moves hm _ _ h3⟩
end
theorem aO.of_block{α:Type}{k:Nat}{enc:(Nat->Prop)->World->α->List Value->Prop}{N:Nat->Prop}{w:World}{b:Nat}{css:List (List Value)}{l:List α}{T:TypeId}{fr:Nat×Nat}{n:Nat}(hb:w.heap[b]? =some (.cells css.flatten.toArray T fr))(hN:N b)
  (hl:css.length=l.length) (hk:∀c,c∈css->c.length=k) (he:∀(i:Nat)(x:α)(c:List Value),l[i]? =some x->css[i]? =some c->enc N w x c) (hn:l.length=n) (tX:n<=9223372036854775807):
  aO k enc N w (.slice (some ⟨b,0,none⟩) n n) l:=by
 subst hn;refine⟨_,_,rfl,Nat.le_refl _,tX,fun _=>⟨b,0,rfl,hN,fun i x hx=>?_⟩⟩;have hi:=(Yb.1 hx).1;obtain⟨c,hc⟩:∃c,css[i]? =some c:=⟨_,List.getElem?_eq_getElem (by rw[hl];exact hi)⟩;have hck:=hk c (List.mem_of_getElem? hc);refine⟨c,he i x c hx hc,hck,fun j u hu=>?_⟩;have hj:j<k:=by rw[<-hck];exact(Yb.1 hu).1
 have hf:=flatten_at css hk i c j hc hj;rw[hu] at hf;have h2:css.flatten.toArray[i*k+j]? =some u:=by simpa using hf
 rw[Nat.zero_add];simp[World.cell?,hb,h2]
theorem oA:∀(l:List Fld)(k:Nat)(x:Fld),l[k]? =some x->cH (l.take (k+1))=max (cH (l.take k)) (aZ x.2)
 |[],k,x,h=>TP
 |y::l,0,x,h=>by
  simp at h;subst h;obtain⟨n,t⟩:=y;simp[cH]
 |y::l,k+1,x,h=>by
  have:=oA l k x TR;obtain⟨n,t⟩:=y;simp only[List.take_succ_cons,cH,this,Nat.max_assoc]
theorem jW:∀(l:List Fld)(x:Fld),x∈l->aZ x.2<=cH l
 |[],x,h=>TY
 |(n,t)::l,x,h=>by
  unfold cH;rcases List.mem_cons.1 h with rfl|h
  ·exact Nat.le_max_left _ _
  exact Nat.le_trans (jW l x h) (Nat.le_max_right _ _)
theorem depthXs_take:∀(l:List Xp)(k:Nat)(x:Xp),l[k]? =some x->dP (l.take (k+1))=max (dP (l.take k)) (bE x)
 |[],k,x,h=>TP
 |y::l,0,x,h=>by simp at h;subst h;simp[dP]
 |y::l,k+1,x,h=>by
  have:=depthXs_take l k x TR;simp only[List.take_succ_cons,dP,this,Nat.max_assoc]
theorem kW:∀(l:List Xp)(x:Xp),x∈l->bE x<=dP l
 |[],x,h=>TY
 |y::l,x,h=>by
  unfold dP;rcases List.mem_cons.1 h with rfl|h
  ·exact Nat.le_max_left _ _
  exact Nat.le_trans (kW l x h) (Nat.le_max_right _ _)
end Go.Proofs.YtiionicikdnnpaaGreatDoor
namespace Go.Proofs.YtiionicikdnnpaaGreatDoor
open Go.RowKit
theorem QP{p:Prop}(h:p:=by
 go_wp2_with fail;go_loop [3,9] (fun m i=>m=.int .i64 0/\i=.int .i64 0) (fun _ _=>0)
 case atStart=>exact⟨rfl,rfl⟩
 case round=>
  obtain⟨rfl,rfl⟩:=hrel;go_wp2_with fail;go_ret
  exact⟨rfl,aB _ _⟩):p:=h
theorem Q8{p:Prop}(h:p:=by
 go_roundw;case rel=>exact⟨q+1,RY,SK,by rw[HT.out];go_num,zh (aA HB.out (aA (aB _ _) pO))⟩
 case measure=>simp[intOf];omega):p:=h
theorem levelsFs_le:∀(l:List Fld)(k:Nat),cH (l.take k)<=cH l
 |[],k=>R2
 |x::l,0=>by simp[cH]
 |(n,t)::l,k+1=>by
  have:=levelsFs_le l k;simp only[List.take_succ_cons,cH];omega
theorem depthXs_le:∀(l:List Xp)(k:Nat),dP (l.take k)<=dP l
 |[],k=>R2
 |x::l,0=>by simp[dP]
 |x::l,k+1=>by
  have:=depthXs_le l k;simp only[List.take_succ_cons,dP];omega
theorem levels_any:∀(d:Nat)(t:Ty)(N:Nat->Prop)(k:Int)(vf:Value)(w:World),aZ t<=d->aZ t<=9000000000000000000->gB N w t [.int .i64 k,vf]->
  Calls Tryz.prog 117 #[.agg #[.int .i64 k,vf]] w fun e w'=>e=.returned (.int .i64 (aZ t:Nat))/\Below w.heap.size w w'
 |0,t,_,_,_,_,hd,_,_=>by cases t;simp[aZ] at hd
 |d+1,.mk kind fields,N,k,vf,w,hd,tX,he=>by
  rw[fE] at he;obtain⟨vf',hv,hr⟩:=he;cases hv;have zS:aZ (.mk kind fields)=cH fields+1:=by rw[aZ]
  rw[zS] at hd tX ⊢;clear zS;have OG:=zh (fun t N k vf w h1 h2 h3=>levels_any d t N k vf w h1 h2 h3);rcases hr.cases R0 with⟨rfl,a,c,rfl⟩|⟨b,o,c,rfl,h0,h1,h2,hb,hN,hc⟩
  ·clear hr;go_enter Tryz.func117,Tryz.ntmps117;exact QP
  have HC:=zh hc;clear hc hr;go_enter Tryz.func117,Tryz.ntmps117;go_wp2_with fail;go_loopw [3,9] (fun m i wr=>∃q:Nat,q<=fields.length/\i=.int .i64 q/\m=.int .i64 (cH (fields.take q):Nat)/\Hid (Below w.heap.size w wr)) (fun _ i _=>fields.length-(intOf i).toNat)
  case atStart=>exact⟨0,Nat.zero_le _,rfl,by simp[cH],zh (aB _ _)⟩
  case round=>
   obtain⟨q,hq,rfl,rfl,HB⟩:=hrel;(rename World=>wr);by_cases qA:q<fields.length
   ·obtain⟨x,hx,tM⟩:=getElem?_of_lt qA;obtain⟨cs,⟨ct,rfl,hn,sT⟩,-,hj⟩:=HC.out q x hx;have hm:=jW fields x tM;have HT:Hid (cH (fields.take (q+1))=max (cH (fields.take q)) (aZ x.2)):=zh (oA fields q x hx);obtain⟨nm,ty⟩:=x
    cases ty with
    |mk k2 f2=>
     have wK:=sT;rw[fE] at wK;obtain⟨vf2,rfl,yV⟩:=wK;obtain⟨a2,cc2,rfl,-⟩:=yV;have c0:wr.cell? ⟨b,o+q*3,none⟩=some (.string nm):=aD HB.out (hj 0 _ rfl);have c1:=aD HB.out (hj 1 _ rfl);have c2:=aD HB.out (hj 2 _ rfl);have HE:=zh (fun W(h:Below w.heap.size w W)=>dM _ _ _ _ _ _ (aQ.later h) sT);have HL:=zh (fun W h=>OG.out (.mk k2 f2) N k2 _ W (by simp only at hm;omega) (by simp only at hm;omega) (HE.out W h));simp only at HT;have hmx:=HT.out;have IZ:cH (fields.take (q+1))<=cH fields:=levelsFs_le fields _;clear hj hx tM sT hm hn;generalize aZ (.mk k2 f2)=lv at HL HT hmx;generalize cH (fields.take q)=l0 at HT hmx ⊢;go_wp2_with(go_at_call 117;refine(HL.out _ (aA HB.out (aB _ _))).mono ?_;rintro e w1 ⟨rfl,pO⟩);exact Q8
   have tT:q=fields.length:=RY;subst tT;rw[List.take_length];generalize IZ:cH fields=lv at tX ⊢;have HV:=zh IZ;clear IZ;go_wp2_with fail;go_ret;exact⟨ret_int (by have:=HV.out;omega),HB.out⟩
theorem depth_any:∀(d:Nat)(x:Xp)(N:Nat->Prop)(op n:Int)(s m:bA)(vn va:Value)(w:World),bE x<=d->bE x<=9000000000000000000->bJ N w x [.int .i64 op,.int .i64 n,.string s,.string m,vn,va]->
  Calls Tryz.prog 51 #[nE op n s m vn va] w fun e w'=>e=.returned (.int .i64 (bE x:Nat))/\Below w.heap.size w w'
 |0,x,_,_,_,_,_,_,_,_,hd,_,_=>by cases x;simp[bE] at hd
 |d+1,.mk op n s m names args,N,op',n',s',m',vn,va,w,hd,tX,he=>by
  rw[aW] at he;obtain⟨vn',va',hv,-,-,hrn,hr⟩:=he;cases hv;have zS:bE (.mk op n s m names args)=dP args+1:=by rw[bE]
  rw[zS] at hd tX ⊢;clear zS;have OG:=zh (fun x N op n s m vn va w h1 h2 h3=>depth_any d x N op n s m vn va w h1 h2 h3);obtain⟨an,cn,rfl,-⟩:=hrn;rcases hr.cases R0 with⟨rfl,a,c,rfl⟩|⟨b,o,c,rfl,h0,h1,h2,hb,hN,hc⟩
  ·clear hr;go_enter Tryz.func51,Tryz.ntmps51;exact QP
  have HC:=zh hc;clear hc hr;go_enter Tryz.func51,Tryz.ntmps51;go_wp2_with fail;go_loopw [3,9] (fun m i wr=>∃q:Nat,q<=args.length/\i=.int .i64 q/\m=.int .i64 (dP (args.take q):Nat)/\Hid (Below w.heap.size w wr)) (fun _ i _=>args.length-(intOf i).toNat)
  case atStart=>exact⟨0,Nat.zero_le _,rfl,by simp[dP],zh (aB _ _)⟩
  case round=>
   obtain⟨q,hq,rfl,rfl,HB⟩:=hrel;(rename World=>wr);by_cases qA:q<args.length
   ·obtain⟨x,hx,tM⟩:=getElem?_of_lt qA;obtain⟨cs,sT,-,hj⟩:=HC.out q x hx;have hm:=kW args x tM;have HT:Hid (dP (args.take (q+1))=max (dP (args.take q)) (bE x)):=zh (depthXs_take args q x hx)
    cases x with
    |mk sW n2 s2 m2 names2 args2=>
     have wK:=sT;rw[aW] at wK;obtain⟨vn2,va2,rfl,-,-,JO,yV⟩:=wK;obtain⟨a1,cc1,rfl,-⟩:=JO;obtain⟨a2,cc2,rfl,-⟩:=yV;have c0:wr.cell? ⟨b,o+q*6,none⟩=some (.int .i64 sW):=aD HB.out (hj 0 _ rfl);have c1:=aD HB.out (hj 1 _ rfl);have c2:=aD HB.out (hj 2 _ rfl);have c3:=aD HB.out (hj 3 _ rfl);have c4:=aD HB.out (hj 4 _ rfl);have c5:=aD HB.out (hj 5 _ rfl);have HE:=zh (fun W(h:Below w.heap.size w W)=>aH _ _ _ _ _ _ (aQ.later h) sT);have HL:=zh (fun W h=>OG.out (.mk sW n2 s2 m2 names2 args2) N sW n2 s2 m2 _ _ W RY RY (HE.out W h));have hmx:=HT.out;have IZ:dP (args.take (q+1))<=dP args:=depthXs_le args _;clear hj hx tM sT hm;generalize bE (.mk sW n2 s2 m2 names2 args2)=lv at HL HT hmx;generalize dP (args.take q)=l0 at HT hmx ⊢;go_wp2_with(go_at_call 51;refine(HL.out _ (aA HB.out (aB _ _))).mono ?_;rintro e w1 ⟨rfl,pO⟩);exact Q8
   have tT:q=args.length:=RY;subst tT;rw[List.take_length];generalize IZ:dP args=lv at tX ⊢;have HV:=zh IZ;clear IZ;go_wp2_with fail;go_ret;exact⟨ret_int (by have:=HV.out;omega),HB.out⟩
end Go.Proofs.YtiionicikdnnpaaGreatDoor
