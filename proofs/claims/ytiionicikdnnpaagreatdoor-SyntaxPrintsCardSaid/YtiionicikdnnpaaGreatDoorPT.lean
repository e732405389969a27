/- Texts of this seat, joined. -/
import Derived.Test.YtiionicikdnnpaaGreatDoorPS
import Derived.Laws.EntriesVeiled
import Derived.Test.YtiionicikdnnpaaGreatDoorLexC
set_option maxHeartbeats 1600000
set_option maxRecDepth 100000
set_option linter.unusedVariables false
set_option linter.unusedSimpArgs false
set_option linter.constructorNameAsVariable false
namespace Go.Proofs.YtiionicikdnnpaaGreatDoor
open Go.RowKit
def gD(w:World)(b:Nat):Prop:=∃es c,w.heap[b]? =some (.map es c)
theorem gD.of{P:Program}{kt et:TypeId}{κ ν:Type}{K:KeyC P kt κ}{V:ValC P et ν}{w:World}{b n:Nat}{m:κ->Option ν}(h:bQ K V w b n m):gD w b:=by
 obtain⟨D,⟨es,clock,h1,-⟩,-⟩:=h;exact⟨es,clock,h1⟩
theorem gD.ne{w:World}{b k o:Nat}{v:Value}(h:gD w b)(hc:w.cell? ⟨k,o,none⟩=some v):k≠b:=by
 rintro rfl;obtain⟨es,c,h1⟩:=h;simp[World.cell?,h1] at hc
theorem gD.cell{w w':World}{b k o:Nat}{v:Value}(h:gD w b)(ho:kS b w w')(hc:w.cell? ⟨k,o,none⟩=some v):w'.cell? ⟨k,o,none⟩=some v:=ho.cell (h.ne hc) hc
theorem gD.box{w w':World}{b k:Nat}{cs:Array Value}{t:TypeId}{fr:Nat×Nat}(h:gD w b)(ho:kS b w w')(hc:w.heap[k]? =some (.cells cs t fr)):w'.heap[k]? =some (.cells cs t fr):=by
 obtain⟨es,c,h1⟩:=h;have pP:k≠b:=by rintro rfl;rw[h1] at hc;cases hc
 exact(ho.block k (Array.getElem?_eq_some_iff.1 hc).1 pP).trans hc
theorem only_grown{b:Nat}{w w':World}(h:w.grownBy w' (some b)):kS b w w':=⟨h.os,h.tape,h.output,h.size,fun k hk pP=>h.block k hk (fun e=>pP (by cases e;rfl))⟩
theorem aD{a b:World}{k:Nat}{o:Obj}(hb:Below a.heap.size a b)(hk:a.heap[k]? =some o):b.heap[k]? =some o:=(hb.block _ (Array.getElem?_eq_some_iff.1 hk).1).trans hk
structure Off (S:Nat->Prop) (w w':World):Prop where
 os:w'.os=w.os
 tape:w'.tape=w.tape
 output:w'.output=w.output
 size:w.heap.size<=w'.heap.size
 block:∀k,k<w.heap.size->¬S k->w'.heap[k]? =w.heap[k]?
theorem Off.refl(S:Nat->Prop)(w:World):Off S w w:=⟨rfl,rfl,rfl,Nat.le_refl _,fun _ _ _=>rfl⟩
theorem Off.trans{S:Nat->Prop}{u v w:World}(h:Off S u v)(k:Off S v w):Off S u w:=
 ⟨k.os.trans h.os,k.tape.trans h.tape,k.output.trans h.output,Nat.le_trans h.size k.size,fun i hi pP=>(k.block i (Nat.lt_of_lt_of_le hi h.size) pP).trans (h.block i hi pP)⟩
theorem Ba{S:Nat->Prop}{w w':World}(h:Below w.heap.size w w'):Off S w w':=⟨h.os,h.tape,h.output,h.size,fun k hk _=>h.block k hk⟩
theorem Off.of_only{S:Nat->Prop}{b:Nat}{w w':World}(h:kS b w w')(hb:S b):Off S w w':=⟨h.os,h.tape,h.output,h.size,fun k hk hn=>h.block k hk (fun e=>hn (e▸hb))⟩
theorem Off.below{S:Nat->Prop}{u w w':World}{B:Nat}(h:Below B u w)(k:Off S w w')(hb:∀k,S k->B<=k)(hB:B<=w.heap.size):Below B u w':=
 ⟨k.os.trans h.os,k.tape.trans h.tape,k.output.trans h.output,Nat.le_trans h.size k.size,fun i hi=>(k.block i (by omega) (fun hs=>by have:=hb i hs;omega)).trans (h.block i hi)⟩
theorem Off.cell{S:Nat->Prop}{w w':World}(h:Off S w w'){k o:Nat}{v:Value}(hn:¬S k)(hc:w.cell? ⟨k,o,none⟩=some v):w'.cell? ⟨k,o,none⟩=some v:=
 (World.cell?_of_block (w:=w) (h.block k (gZ hc) hn)).trans hc
theorem Off.heap{S:Nat->Prop}{w w':World}(h:Off S w w'){k:Nat}{o:Obj}(hn:¬S k)(hc:w.heap[k]? =some o):w'.heap[k]? =some o:=
 (h.block k (Array.getElem?_eq_some_iff.1 hc).1 hn).trans hc
theorem Off.setCell{S:Nat->Prop}{b o:Nat}{v:Value}(w:World)(hb:S b):Off S w (w.setCell ⟨b,o,none⟩ v):=Off.of_only (kS.setCell w) hb
theorem Off.drew{S:Nat->Prop}{u w:World}(h:Off S u w):Off S u w.drew:=⟨h.os,h.tape,h.output,h.size,h.block⟩
theorem aW{w:World}{g i:Nat}{cs:Array Value}{t:TypeId}{fr:Nat×Nat}(h:w.heap[g]? =some (.cells cs t fr))(v:Value):(w.setCell ⟨g,i,none⟩ v).heap[g]? =some (.cells (cs.setIfInBounds i v) t fr):=by
 simp[World.setCell,Array.getElem?_modify,h]
def aK(N:Nat->Prop)(w:World)(N':Nat->Prop)(w':World):Prop:=
 ∀b,N b->b<w.heap.size->N' b/\∀o v,w.cell? ⟨b,o,none⟩=some v->w'.cell? ⟨b,o,none⟩=some v
theorem aK.refl(N:Nat->Prop)(w:World):aK N w N w:=fun _ h _=>⟨h,fun _ _ h=>h⟩
theorem aK.later{N:Nat->Prop}{w w':World}(hb:Below w.heap.size w w'):aK N w N w':=fun _ h _=>⟨h,fun _ _ h=>aB hb h⟩
def eF{α:Type}(enc:(Nat->Prop)->World->α->List Value->Prop):Prop:=∀N w N' w' x cs,aK N w N' w'->enc N w x cs->enc N' w' x cs
def aO{α:Type}(k:Nat)(enc:(Nat->Prop)->World->α->List Value->Prop)(N:Nat->Prop)(w:World)(v:Value)(l:List α):Prop:=
 ∃a c,v=.slice a l.length c/\l.length<=c/\c<=9223372036854775807/\
  (l≠[]->∃b o,a=some ⟨b,o,none⟩/\N b/\∀i x,l[i]? =some x->∃cs,enc N w x cs/\cs.length=k/\∀j u,cs[j]? =some u->w.cell? ⟨b,o+i*k+j,none⟩=some u)
theorem aO.moves{α:Type}{k:Nat}{enc:(Nat->Prop)->World->α->List Value->Prop}(he:eF enc){N N':Nat->Prop}{w w':World}{v:Value}{l:List α}(hm:aK N w N' w')(hk:0<k)
  (h:aO k enc N w v l):aO k enc N' w' v l:=by
 obtain⟨a,c,hv,h1,h2,h3⟩:=h;refine⟨a,c,hv,h1,h2,fun pP=>?_⟩;obtain⟨b,o,ha,hn,hc⟩:=h3 pP
 have hb:b<w.heap.size:=by
  cases l with
  |nil=>exact absurd rfl pP
  |cons x0 l=>
   obtain⟨cs,-,hl,hj⟩:=hc 0 x0 rfl;exact T8
 obtain⟨zY,tA⟩:=hm b hn hb;refine⟨b,o,ha,zY,fun i x hx=>?_⟩;obtain⟨cs,e,hl,hj⟩:=hc i x hx;exact⟨cs,he _ _ _ _ _ _ hm e,hl,fun j u hu=>tA _ _ (hj j u hu)⟩
theorem aO.nil{α:Type}(k:Nat)(enc:(Nat->Prop)->World->α->List Value->Prop)(N:Nat->Prop)(w:World):aO k enc N w (.slice none 0 0) []:=⟨none,0,rfl,VY,VY,fun h=>absurd rfl h⟩
theorem aO.cases{α:Type}{k:Nat}{enc:(Nat->Prop)->World->α->List Value->Prop}{N:Nat->Prop}{w:World}{v:Value}{l:List α}(hk:0<k)(h:aO k enc N w v l):
  (l=[]/\∃a c,v=.slice a 0 c)\/(∃b o c,v=.slice (some ⟨b,o,none⟩) l.length c/\0<l.length/\l.length<=c/\c<=9223372036854775807/\b<w.heap.size/\N b/\
   ∀i x,l[i]? =some x->∃cs,enc N w x cs/\cs.length=k/\∀j u,cs[j]? =some u->w.cell? ⟨b,o+i*k+j,none⟩=some u):=by
 obtain⟨a,c,hv,h1,h2,h3⟩:=h
 cases l with
 |nil=>exact .inl ⟨rfl,a,c,hv⟩
 |cons x0 l=>
  obtain⟨b,o,ha,hn,hc⟩:=h3 VY;refine .inr ⟨b,o,c,by rw[hv,ha],VY,h1,h2,?_,hn,hc⟩;obtain⟨cs,-,hl,hj⟩:=hc 0 x0 rfl;exact T8
theorem flatten_at{k:Nat}:∀(css:List (List Value)),(∀c,c∈css->c.length=k)->∀i c j,css[i]? =some c->j<k->css.flatten[i*k+j]? =c[j]?
 |[],_,i,c,j,h,_=>XR
 |d::css,hl,0,c,j,h,hj=>by
  simp at h;subst h;have hd:=hl d VY;rw[List.flatten_cons,Nat.zero_mul,Nat.zero_add,List.getElem?_append_left VS]
 |d::css,hl,i+1,c,j,h,hj=>by
  have hd:=hl d VY;rw[List.flatten_cons,List.getElem?_append_right (by rw[hd,Nat.succ_mul];omega),hd,show(i+1)*k+j-k=i*k+j by rw[Nat.succ_mul];omega];exact flatten_at css (fun c hc=>hl c (by simp[hc])) i c j XE hj
abbrev bP(B:Nat):Nat->Prop:=fun b=>B<=b
abbrev nE(B:Nat)(v:Value):Nat->Prop:=fun b=>B<=b/\v.ownBlock≠some b
structure Gro {α:Type} (k:Nat) (T:TypeId) (enc:(Nat->Prop)->World->α->List Value->Prop) (B:Nat) (l:List α) (css:List (List Value)) (v:Value) (w:World):Prop where
 own:w.ownsRow B T k v l.length css.flatten
 len:css.length=l.length
 ks:∀c,c∈css->c.length=k
 enc:∀(i:Nat)(x:α)(c:List Value),l[i]? =some x->css[i]? =some c->enc (nE B v) w x c
 big:B<=w.heap.size
section
variable {α:Type} {k:Nat} {T:TypeId} {enc:(Nat->Prop)->World->α->List Value->Prop} {B:Nat} {l:List α} {css:List (List Value)} {v:Value} {w w':World}
theorem Gro.first(k:Nat)(T:TypeId)(enc:(Nat->Prop)->World->α->List Value->Prop)(w:World):Gro k T enc w.heap.size [] [] (.slice none 0 0) w:=
 ⟨World.ownsRow_nil _ _ _ _,rfl,fun c h=>WV,fun i x c h=>XR,Nat.le_refl _⟩
theorem Gro.first_at(k:Nat)(T:TypeId)(enc:(Nat->Prop)->World->α->List Value->Prop){w:World}{B:Nat}(h:B<=w.heap.size):Gro k T enc B [] [] (.slice none 0 0) w:=
 ⟨World.ownsRow_nil _ _ _ _,rfl,fun c h=>WV,fun i x c h=>XR,h⟩
def cV(B:Nat)(w w':World):Prop:=w.heap.size<=w'.heap.size/\∀b cs t fr,B<=b->w.heap[b]? =some (.cells cs t fr)->w'.heap[b]? =some (.cells cs t fr)
theorem cV.refl(B:Nat)(w:World):cV B w w:=⟨Nat.le_refl _,fun _ _ _ _ _ h=>h⟩
theorem cV.trans{w'':World}(h:cV B w w')(k:cV B w' w''):cV B w w'':=⟨Nat.le_trans h.1 k.1,fun b _ _ _ hb hc=>k.2 b _ _ _ hb (h.2 b _ _ _ hb hc)⟩
theorem cV.of_below(hb:Below w.heap.size w w'):cV B w w':=⟨hb.size,fun b _ _ _ _ hc=>(hb.block b (Array.getElem?_eq_some_iff.1 hc).1).trans hc⟩
theorem cV.of_off{S:Nat->Prop}(ho:Off S w w')(hS:∀b,S b->b<B\/gD w b):cV B w w':=⟨ho.size,fun b _ _ _ hB hc=>by
 refine(ho.block b (Array.getElem?_eq_some_iff.1 hc).1 fun hs=>?_).trans hc;rcases hS b hs with h|⟨es,c,h⟩
 ·omega
 rw[h] at hc;cases hc⟩
theorem cell_heap{b o:Nat}{u:Value}(h:w.cell? ⟨b,o,none⟩=some u):∃cs t fr,w.heap[b]? =some (.cells cs t fr)/\cs[o]? =some u:=by
 unfold World.cell? at h
 cases hh:w.heap[b]? with
 |none=>simp[hh] at h
 |some ob=>
  cases ob with
  |cells cs t fr=>exact⟨cs,t,fr,rfl,by simpa[hh] using h⟩
  |_=>simp[hh] at h
theorem cV.cell(h:cV B w w'){b o:Nat}{u:Value}(hb:B<=b)(hc:w.cell? ⟨b,o,none⟩=some u):w'.cell? ⟨b,o,none⟩=some u:=by
 obtain⟨cs,t,fr,hh,hu⟩:=cell_heap hc;simp[World.cell?,h.2 b cs t fr hb hh,hu]
theorem cV.moves{N:Nat->Prop}(h:cV B w w')(hN:∀b,N b->B<=b):aK N w N w':=fun b hb _=>⟨hb,fun _ _ hc=>h.cell (hN b hb) hc⟩
theorem cV.mono{B':Nat}(h:cV B w w')(hB:B<=B'):cV B' w w':=⟨h.1,fun b _ _ _ hb hc=>h.2 b _ _ _ (Nat.le_trans hB hb) hc⟩
theorem Gro.stays(he:eF enc)(h:Gro k T enc B l css v w)(hs:cV B w w'):Gro k T enc B l css v w':=by
 refine⟨?_,h.len,h.ks,fun i x c hx hc=>he _ _ _ _ _ _ (hs.moves fun b hb=>hb.1) (h.enc i x c hx hc),Nat.le_trans h.big hs.1⟩;obtain⟨h1,h2⟩:=h.own;refine⟨h1,?_⟩;rcases h2 with h2|⟨g,cap,cur,hv,hg,LS,r⟩
 ·exact .inl h2
 exact .inr ⟨g,cap,cur,hv,hg,hs.2 _ _ _ _ hg LS,r⟩
theorem Gro.later(he:eF enc)(h:Gro k T enc B l css v w)(hb:Below w.heap.size w w'):Gro k T enc B l css v w':=h.stays he (.of_below hb)
theorem Gro.added(he:eF enc)(h:Gro k T enc B l css v w){g cap:Nat}{x:α}{news:List Value}(hx:enc (nE B v) w x news)(hk:news.length=k)
  (pT:w'.ownsRow B T k (.slice (some ⟨g,0,none⟩) (l.length+1) cap) (l.length+1) (css.flatten++news)) (pL:w.grownBy w' v.ownBlock) (qW:v.ownBlock=some g\/g=w.heap.size):
  Gro k T enc B (l++[x]) (css++[news]) (.slice (some ⟨g,0,none⟩) (l.length+1) cap) w':=by
 have hm:aK (nE B v) w (nE B (.slice (some ⟨g,0,none⟩) (l.length+1) cap)) w':=fun b hb pS=>by
  refine⟨⟨hb.1,fun e=>?_⟩,fun o u hu=>pL.cell hu (fun e=>hb.2 e.symm)⟩;have e2:g=b:=YG;subst e2;rcases qW with h1|h1
  ·exact hb.2 h1
  omega
 refine⟨by rw[List.length_append,List.flatten_append];simpa using pT,by simp[h.len],fun c hc=>?_,fun i y c hy hc=>?_,Nat.le_trans h.big pL.size⟩
 ·rcases List.mem_append.1 hc with h1|h1
  ·exact h.ks c h1
  rw[List.mem_singleton.1 h1];exact hk
 by_cases hi:i<l.length
 ·rw[List.getElem?_append_left hi] at hy;rw[List.getElem?_append_left (by rw[h.len];exact hi)] at hc;exact he _ _ _ _ _ _ hm (h.enc i y c hy hc)
 rw[List.getElem?_append_right VS] at hy;rw[List.getElem?_append_right (by rw[h.len];omega)] at hc
 have wO:i-l.length=0:=by
  rcases Nat.eq_zero_or_pos (i-l.length) with h0|h0
  ·exact h0
  rw[List.getElem?_eq_none (by rw[List.length_singleton];omega)] at hy;cases hy
 rw[wO] at hy;rw[h.len,wO] at hc;cases hy;cases hc;exact he _ _ _ _ _ _ hm hx
theorem Gro.row(he:eF enc)(h:Gro k T enc B l css v w):aO k enc (bP B) w v l:=by
 obtain⟨h1,h2⟩:=h.own;rcases h2 with⟨rfl,h0⟩|⟨g,cap,cur,rfl,hg,hgb,r1,r2,r3,r4⟩
 ·have:=List.eq_nil_of_length_eq_zero h0;subst this;exact aO.nil _ _ _ _
 refine⟨_,cap,rfl,r1,r2,fun _=>⟨g,0,rfl,hg,fun i x hx=>?_⟩⟩;have hi:=(Yb.1 hx).1;obtain⟨c,hc⟩:∃c,css[i]? =some c:=⟨_,List.getElem?_eq_getElem (by rw[h.len];exact hi)⟩;have hck:=h.ks c (List.mem_of_getElem? hc);refine⟨c,he _ _ _ _ _ _ (fun b hb _=>⟨hb.1,fun _ _ h=>h⟩) (h.enc i x c hx hc),hck,fun j u hu=>?_⟩;have hj:j<k:=by rw[<-hck];exact(Yb.1 hu).1
 have pS:i*k+j<l.length*k:=by
  have:(i+1)*k<=l.length*k:=Nat.mul_le_mul_right _ hi;rw[Nat.succ_mul] at this;omega
 have:=congrArg (fun t:List Value=>t[i*k+j]?) r4;simp only[List.getElem?_take,if_pos pS,flatten_at css h.ks i c j hc hj,hu] at this;have h2:cur[i*k+j]? =some u:=by simpa using this
 simp[World.cell?,hgb,h2]
theorem Gro.lt(h:Gro k T enc B l css v w):∀b,v.ownBlock=some b->B<=b/\b<w.heap.size:=h.own.lt
theorem Gro.val(h:Gro k T enc B l css v w):v=.slice none 0 0/\l=[]\/∃g cap,v=.slice (some ⟨g,0,none⟩) l.length cap/\B<=g/\g<w.heap.size:=by
 rcases h.own.2 with⟨rfl,h0⟩|⟨g,cap,cur,rfl,hg,hgb,-⟩
 ·exact .inl ⟨rfl,List.eq_nil_of_length_eq_zero h0⟩
 exact .inr ⟨g,cap,rfl,hg,(Array.getElem?_eq_some_iff.1 hgb).1⟩
end
def eT(_:Nat->Prop)(_:World)(x:bA)(cs:List Value):Prop:=cs=[.string x]/\x.size<=140737488355328
theorem aT:eF eT:=fun _ _ _ _ _ _ _ h=>h
theorem aO.strs{N:Nat->Prop}{w:World}{v:Value}{l:List bA}(h:aO 1 eT N w v l):Strs w v l:=by
 obtain⟨a,c,hv,h1,h2,h3⟩:=h;refine⟨a,c,hv,h1,h2,fun pP=>?_⟩;obtain⟨b,o,ha,-,hc⟩:=h3 pP;exact⟨b,o,ha,hc⟩
end Go.Proofs.YtiionicikdnnpaaGreatDoor
namespace Go.Proofs.YtiionicikdnnpaaGreatDoor
open Go.RowKit
abbrev tokCells(t:Tok):List Value:=[.int .i64 t.kind,.string t.text,.int .i64 t.n,.int .i64 t.pos]
def encTok(_:Nat->Prop)(_:World)(x:Tok)(cs:List Value):Prop:=cs=tokCells x/\x.text.size<=8000
theorem lD:eF encTok:=fun _ _ _ _ _ _ _ h=>h
theorem tokInfo:(Tryz.prog.info? 59).map (fun i=>(i.zero,i.size,i.bytes))=some (some (oBx18 0 ByteArray.empty 0 0),4,40):=VT
structure LexSt (s:bA) (W:World) (i:Nat) (out:List Tok) (css:List (List Value)) (v:Value) (wr:World):Prop where
 acc:Gro 4 59 encTok W.heap.size out css v wr
 below:Below W.heap.size W wr
 len:out.length<=i
 le:i<=s.size
 rest:∃f,iE s (s.size+1) 0 []=iE s (f+1) i out/\s.size<=f+i
 ok:∀t,t∈out->t.kind≠3/\t.text.size<=s.size
def lexV(B:Nat)(s:bA)(r:Except (Int×Int) (List Tok))(e:Ending)(w':World):Prop:=match r with
 | .error x=>e=.returned (.tuple #[.slice none 0 0,.int .i64 x.1,.int .i64 x.2])
 | .ok l=>∃v,e=.returned (.tuple #[v,.int .i64 0,.int .i64 0])/\aO 4 encTok (bP B) w' v l/\TokOk s l
theorem nextV_err(e:Int):nF (.error e)=.tuple #[tokV 0 ⟨#[]⟩ 0 0,.int .i64 e]:=rfl
theorem nextV_ok(k n:Int)(t:bA):nF (.ok (k,t,n))=.tuple #[tokV k t n 0,.int .i64 0]:=rfl
theorem mO{u w w':World}{row:Option Nat}(h:Below u.heap.size u w)(hg:w.grownBy w' row)(hr:∀b,row=some b->u.heap.size<=b):Below u.heap.size u w':=
 ⟨hg.os.trans h.os,hg.tape.trans h.tape,hg.output.trans h.output,Nat.le_trans h.size hg.size,fun k hk=>(hg.block k (by have:=h.size;omega) (fun e=>by have:=hr k e.symm;omega)).trans (h.block k hk)⟩
theorem lex_any(s:bA)(w:World)(hs:s.size<=140737488355328)(hg:SignsAt w):
  Calls Tryz.prog 36 #[.string s] w fun e w'=>lexV w.heap.size s (lexL s) e w'/\Below w.heap.size w w':=by
 obtain⟨i0,wO,tS,rZ,rY⟩:=info_parts tokInfo;have HG:=zh hg;clear hg;by_cases rK:(8000:Int)<(s.size:Int)
 ·have HL:Hid (lexL s=.error (0,6)):=zh (by unfold lexL;rw[if_pos VS]);go_enter Tryz.func36,Tryz.ntmps36;go_wp2_with fail;refine bodyPost_ret (v:=.tuple #[.slice none 0 0,.int .i64 0,.int .i64 6]) Y1 rfl ⟨?_,Below.refl _ _⟩;rw[HL.out];rfl
 have tT:s.size<=8000:=VS;have HL:Hid (lexL s=iE s (s.size+1) 0 []):=zh (by unfold lexL;rw[if_neg VS]);go_enter Tryz.func36,Tryz.ntmps36;go_wp2_with fail;go_loopw [5,6] (fun v iv wr=>∃(i:Nat)(out:List Tok)(css:List (List Value)),iv=.int .i64 i/\Hid (LexSt s w i out css v wr)) (fun _ iv _=>s.size-(intOf iv).toNat)
 case atStart=>exact⟨0,[],[],rfl,zh ⟨Gro.first _ _ _ _,Below.refl _ _,Nat.le_refl _,Nat.zero_le _,⟨s.size,rfl,VS⟩,fun t h=>WV⟩⟩
 case round=>
  obtain⟨i,out,css,rfl,HS⟩:=hrel;rename World=>wr
  have hi:i<=s.size:=HS.out.le;obtain⟨f,hf,hfi⟩:=HS.out.rest;have HF:=zh hf;clear hf;have HR:Hid (hI s i=s.extract i s.size):=zh rfl;have hn:=spanN_le eU (hI s i).data.toList;rw[<-hH,jY] at hn;have qO:=zh (span_any 99 eU (hI s i) wr (by rw[jY];omega) enters_blank blank_any);rw[HR.out] at qO;have HE:=zh (fun h=>lexFrom_end (s:=s) (f:=f) (i:=i) (out:=out) h);have xA:=zh (fun e h hn=>lexFrom_bad (s:=s) (f:=f) (i:=i) (out:=out) (e:=e) h hn);have HOn:=zh (fun k n t h hn=>lexFrom_on (s:=s) (f:=f) (i:=i) (out:=out) (k:=k) (n:=n) (t:=t) h hn);rw[HR.out] at hn HE xA HOn;generalize dW eU (s.extract i s.size).data.toList=n at hn qO HE xA HOn;have KY:=HS.out.below.size;by_cases LW:i+n=s.size
  ·have hend2:(i:Int)+(n:Int)=(s.size:Int):=VS;have HEnd:=zh LW;(have hcap:out.length<=8000:=by have:=HS.out.len;omega);go_wp2_with(first|(go_at_call 98;refine qO.out.mono ?_;rintro e w' ⟨rfl,rfl⟩)|(at_builtin;refine wpList_append_lies _ rfl _ _ 54 rfl w.heap.size 59 i0 (oBx18 0 ByteArray.empty 0 0) 4 40 Tryz.underlying54 wO tS rZ rY rfl VS _ out.length css.flatten W7 (HS.out.acc.own.alloc _) ⟨wr.heap.size,0,none⟩ 1 1 [.int .i64 3,.string ⟨#[]⟩,.int .i64 0,.int .i64 (s.size:Int)] W7 rfl (World.news_of_block (cs:=#[.int .i64 3,.string ⟨#[]⟩,.int .i64 0,.int .i64 (s.size:Int)]) (t:=59) (fr:=(0,0)) (bY wr _)) WF VS WL VS XJ (wr.heap.size+1) VY ?_));intro g cap w1 pT pL qW _;have HA:=HS.out.acc.later lD (aC wr (dA 3 ⟨#[]⟩ 0 (s.size:Int)));have EC:=zh ((HA.added lD (x:=⟨3,⟨#[]⟩,0,s.size⟩) ⟨rfl,Nat.zero_le _⟩ rfl pT pL YH).row lD);have zC:=zh (TokOk.of (s:=s) (out:=out) (p:=s.size) (by have:=HS.out.len;omega) HS.out.ok);have qN:=zh (mO (aA HS.out.below (aC wr (dA 3 ⟨#[]⟩ 0 (s.size:Int)))) pL (fun b hb=>(HA.lt b hb).1));clear pT pL qW HA;go_wp2_with fail;refine bodyPost_ret (v:=.tuple #[.slice (some ⟨g,0,none⟩) (out.length+1) cap,.int .i64 0,.int .i64 0]) Y1 rfl ⟨?_,qN.out⟩;rw[HL.out,HF.out,HE.out HEnd.out];exact⟨_,rfl,EC.out,zC.out⟩
  have hend2:¬(i:Int)+(n:Int)=(s.size:Int):=VS;have HEnd:=zh LW;have pS:i+n<s.size:=VS;have HC:Hid ((i:Int)+(n:Int)=((i+n:Nat):Int)):=zh VS;have uQ:0<(hI s (i+n)).size:=by rw[jY];omega
  have HN:=zh (lexnext_any (hI s (i+n)) wr (by rw[jY];omega) uQ (HG.out.later HS.out.below));have CK:=zh (fun k t n'=>nextTok_ok (s:=hI s (i+n)) uQ (k:=k) (t:=t) (n:=n'));clear uQ
  cases hq:gC (hI s (i+n)) with
  |error e0=>
   rw[hq,nextV_err] at HN;rw[show hI s (i+n)=s.extract (i+n) s.size from rfl] at HN;have HQ:=zh (xA.out e0 LW hq);have zM:=nextTok_err hq;clear hq xA HOn HE CK;go_wp2_with(first|(go_at_call 98;refine qO.out.mono ?_;rintro e w' ⟨rfl,rfl⟩)|(go_at_call 100;refine HN.out.mono ?_;rintro e w' ⟨rfl,hb⟩));have qN:=zh (aA HS.out.below (aA hb (aC w' (dA 0 ⟨#[]⟩ 0 0))));refine bodyPost_ret (v:=.tuple #[.slice none 0 0,.int .i64 ((i:Int)+(n:Int)),.int .i64 e0]) Y1 rfl ⟨?_,qN.out⟩;rw[HL.out,HF.out,HQ.out,HC.out];rfl
  |ok r=>
   obtain⟨k,t,m⟩:=r;rw[hq,nextV_ok] at HN;rw[show hI s (i+n)=s.extract (i+n) s.size from rfl] at HN;have HQ:=zh (HOn.out k m t LW hq);have HT:=zh (CK.out k t m hq);clear hq xA HOn HE CK;(have ht1:(i:Int)+(n:Int)+(t.size:Int)<=(s.size:Int):=by have:=HT.out.2.2;rw[jY] at this;omega);(have hcap:out.length<=8000:=by have:=HS.out.len;omega);go_wp2_with(first|(go_at_call 98;refine qO.out.mono ?_;rintro e w' ⟨rfl,rfl⟩)|(go_at_call 100;refine HN.out.mono ?_;rintro e w1 ⟨rfl,hb⟩;have HA:=zh (HS.out.acc.later lD hb);have hw1:=hb.size)|(at_builtin;refine wpList_append_lies _ rfl _ _ 54 rfl w.heap.size 59 i0 (oBx18 0 ByteArray.empty 0 0) 4 40 Tryz.underlying54 wO tS rZ rY rfl VS _ out.length css.flatten W7 ((HA.out.own.alloc _).alloc _) ⟨w1.heap.size+1,0,none⟩ 1 1 [.int .i64 k,.string t,.int .i64 m,.int .i64 ((i:Int)+(n:Int))] W7 rfl (World.news_of_block (cs:=#[.int .i64 k,.string t,.int .i64 m,.int .i64 ((i:Int)+(n:Int))]) (t:=59) (fr:=(0,0)) (by simpa using bY (w1.alloc (dA k t m ((i:Int)+(n:Int)))) _)) WF VS WL VS XJ (w1.heap.size+1+1) VY ?_));intro g cap w2 pT pL qW _;have yM:=((HA.out.later lD (aC w1 (dA k t m ((i:Int)+(n:Int))))).later lD (aC _ (dA k t m ((i:Int)+(n:Int)))));(have htx:t.size<=8000:=by have:=HT.out.2.2;rw[jY] at this;omega);have EC:=zh (yM.added lD (x:=⟨k,t,m,((i+n:Nat):Int)⟩) ⟨by rw[HC.out],htx⟩ rfl pT pL YH);have qN:=zh (mO (aA HS.out.below (aA hb (aA (aC w1 (dA k t m ((i:Int)+(n:Int)))) (aC _ (dA k t m ((i:Int)+(n:Int))))))) pL (fun b hb=>(yM.lt b hb).1))
   have hcT:w2.cell? ⟨w1.heap.size,1,none⟩=some (.string t):=by
    refine pL.cell (aB (aC _ _) (v:=.string t) ?_) (fun e=>by have:=(HA.out.lt _ e.symm).2;simp at this);exact(cell_of_row _ w1.heap.size 1 _ _ _ (bY w1 _)).trans rfl
   clear pT pL qW yM htx HA HN qO;go_wp2_with fail;go_roundw
   case rel=>
    refine⟨i+n+t.size,out++[⟨k,t,m,((i+n:Nat):Int)⟩],_,WH,zh ⟨EC.out,qN.out,?_,VS,?_,?_⟩⟩
    ·have h1:=HS.out.len;have h2:=HT.out.2.1;rw[List.length_append,List.length_singleton];omega
    ·obtain⟨f',LV⟩:∃f',f=f'+1:=⟨f-1,VS⟩;subst LV;refine⟨f',by rw[HF.out,HQ.out],?_⟩;have h2:=HT.out.2.1;omega
    intro x hx;rcases List.mem_append.1 hx with h|h
    ·exact HS.out.ok x h
    rw[List.mem_singleton.1 h];refine⟨HT.out.1,?_⟩;have:=HT.out.2.2;rw[jY] at this;show t.size<=s.size;omega
   case measure=>have h2:=HT.out.2.1;simp[intOf];omega
abbrev tokVal(t:Tok):Value:=tokV t.kind t.text t.n t.pos
structure Prs where
 l:List Tok
 b:Nat
 o:Nat
 c:Nat
 pb:Nat
structure Prs.At (p:Prs) (w:World) (i:Nat):Prop where
 box:w.heap[p.pb]? =some (mH (some ⟨p.b,p.o,none⟩) p.l.length p.c (i:Int))
 toks:∀k t,p.l[k]? =some t->(w.cell? ⟨p.b,p.o+k*4,none⟩=some (.int .i64 t.kind)/\w.cell? ⟨p.b,p.o+k*4+1,none⟩=some (.string t.text)/\w.cell? ⟨p.b,p.o+k*4+2,none⟩=some (.int .i64 t.n)/\w.cell? ⟨p.b,p.o+k*4+3,none⟩=some (.int .i64 t.pos))/\t.text.size<=8000
 ne:p.b≠p.pb
 lt:i<p.l.length
 len:p.l.length<=8001
 cap:p.l.length<=p.c/\p.c<=9223372036854775807
 last:∀k t,p.l[k]? =some t->t.kind≠3->k+1<p.l.length
 glob:hZ w
 spc:Lib.TabIs Tryz.prog w "strings.asciiSpace" .u8 Lib.asciiSpaceTab
 gne:∀k,k<11->k≠p.pb
abbrev Prs.v(p:Prs):Value:=.pointer (some ⟨p.pb,0,none⟩)
abbrev Prs.S(p:Prs):Nat->Prop:=fun k=>k=p.pb
section
variable {p:Prs} {w w':World} {i:Nat}
theorem hZ.off{S:Nat->Prop}(h:hZ w)(ho:Off S w w')(hS:∀k,k<11->¬S k):hZ w':=by
 have hb:=h.big;refine⟨Nat.le_trans h.big ho.size,?_,?_,?_,fun i x hx=>ho.cell (hS _ VS) (h.signs i x hx),fun hw i x hx=>ho.cell (hS _ VS) (h.words hw i x hx)⟩
 ·obtain⟨m,hm⟩:=h.maxLen;exact⟨m,ho.cell (hS _ VS) hm⟩
 ·have:Below 11 w w':=⟨ho.os,ho.tape,ho.output,ho.size,fun k hk=>ho.block k VS (hS k hk)⟩;exact var?_below (g:=5) this VT VS h.pow10
 have:Below 11 w w':=⟨ho.os,ho.tape,ho.output,ho.size,fun k hk=>ho.block k VS (hS k hk)⟩;exact var?_below (g:=1) this VT VS h.spc
theorem spc_off{S:Nat->Prop}(h:Lib.TabIs Tryz.prog w "strings.asciiSpace" .u8 Lib.asciiSpaceTab)(hb:11<=w.heap.size)(ho:Off S w w')(hS:∀k,k<11->¬S k):Lib.TabIs Tryz.prog w' "strings.asciiSpace" .u8 Lib.asciiSpaceTab:=by
 have:Below 11 w w':=⟨ho.os,ho.tape,ho.output,ho.size,fun k hk=>ho.block k VS (hS k hk)⟩;exact var?_below (g:=1) this VT VS h
theorem Prs.At.blt(h:p.At w i):p.pb<w.heap.size:=(Array.getElem?_eq_some_iff.1 h.box).1
theorem Prs.At.tok(h:p.At w i):p.l[i]? =some (aM p.l i):=by
 unfold aM;rw[List.getD_eq_getElem?_getD,List.getElem?_eq_getElem h.lt];rfl
theorem Prs.At.later(h:p.At w i)(hb:Below w.heap.size w w'):p.At w' i:=
 ⟨(hb.block _ h.blt).trans h.box,fun k t hk=>by
  obtain⟨⟨a1,a2,a3,a4⟩,a5⟩:=h.toks k t hk
  exact⟨⟨aB hb a1,aB hb a2,aB hb a3,aB hb a4⟩,a5⟩,h.ne,h.lt,h.len,h.cap,h.last,h.glob.later hb,spc_off h.spc h.glob.big (Ba (S:=fun _=>False) hb) (fun _ _ h=>h),h.gne⟩
theorem Prs.At.off{S:Nat->Prop}(h:p.At w i)(ho:Off S w w')(h1:¬S p.pb)(h2:¬S p.b)(h3:∀k,k<11->¬S k):p.At w' i:=
 ⟨ho.heap h1 h.box,fun k t hk=>by
  obtain⟨⟨a1,a2,a3,a4⟩,a5⟩:=h.toks k t hk
  exact⟨⟨ho.cell h2 a1,ho.cell h2 a2,ho.cell h2 a3,ho.cell h2 a4⟩,a5⟩,h.ne,h.lt,h.len,h.cap,h.last,h.glob.off ho h3,spc_off h.spc h.glob.big ho h3,h.gne⟩
theorem Prs.At.box0(h:p.At w i):w.cell? ⟨p.pb,0,none⟩=some (.slice (some ⟨p.b,p.o,none⟩) p.l.length p.c):=by simp[World.cell?,h.box]
theorem Prs.At.box1(h:p.At w i):w.cell? ⟨p.pb,1,none⟩=some (.int .i64 (i:Int)):=by simp[World.cell?,h.box]
theorem Prs.At.froz(h:p.At w i):w.frozen? ⟨p.pb,1,none⟩=false:=by simp[World.frozen?,h.box]
theorem Prs.At.step(h:p.At w i)(hl:i+1<p.l.length):p.At (w.setCell ⟨p.pb,1,none⟩ (.int .i64 ((i:Int)+1))) (i+1)/\Off p.S w (w.setCell ⟨p.pb,1,none⟩ (.int .i64 ((i:Int)+1))):=by
 have ho:Off p.S w (w.setCell ⟨p.pb,1,none⟩ (.int .i64 ((i:Int)+1))):=Off.setCell w rfl;refine⟨⟨?_,fun k t hk=>?_,h.ne,hl,h.len,h.cap,h.last,h.glob.off ho (fun k hk=>h.gne k hk),spc_off h.spc h.glob.big ho (fun k hk=>h.gne k hk),h.gne⟩,ho⟩
 ·rw[aW h.box,Int.natCast_add,Int.natCast_one];rfl
 obtain⟨⟨a1,a2,a3,a4⟩,a5⟩:=h.toks k t hk;exact⟨⟨ho.cell h.ne a1,ho.cell h.ne a2,ho.cell h.ne a3,ho.cell h.ne a4⟩,a5⟩
end
abbrev faultE(x:Int×Int):Ending:=.panicked [{v:=.iface 144 (.agg #[.int .i64 x.1,.int .i64 x.2]),recovered:=false}]
def Ran{α:Type}(S:Nat->Prop)(w:World)(r:PR α)(V:α->Nat->Ending->World->Prop)(e:Ending)(w':World):Prop:=
 (∃x:Int×Int,r=.error x/\e=.panicked [{v:=.iface 144 (.agg #[.int .i64 x.1,.int .i64 x.2]),recovered:=false}]/\Off S w w')\/(∃a j,r=.ok (a,j)/\V a j e w'/\Off S w w')
theorem Ran.bad{α:Type}{S:Nat->Prop}{w w':World}{r:PR α}{V:α->Nat->Ending->World->Prop}{p e:Int}(hr:r=.error (p,e))(ho:Off S w w'):
  Ran S w r V (.panicked [{v:=.iface 144 (.agg #[.int .i64 p,.int .i64 e]),recovered:=false}]) w':=.inl ⟨(p,e),hr,rfl,ho⟩
theorem Ran.good{α:Type}{S:Nat->Prop}{w w':World}{r:PR α}{V:α->Nat->Ending->World->Prop}{a:α}{j:Nat}{e:Ending}(hr:r=.ok (a,j))(hv:V a j e w')(ho:Off S w w'):Ran S w r V e w':=.inr ⟨a,j,hr,hv,ho⟩
theorem cJ(p:Prs)(w:World)(i:Nat)(h:p.At w i):Calls Tryz.prog 50 #[.pointer (some ⟨p.pb,0,none⟩)] w fun e w'=>e=.returned (oBx18 (aM p.l i).kind (aM p.l i).text (aM p.l i).n (aM p.l i).pos)/\Below w.heap.size w w':=by
 have h2:=h.later (aC w (dA 0 ⟨#[]⟩ 0 0));obtain⟨⟨c1,c2,c3,c4⟩,-⟩:=h.toks i _ h.tok;have b0:=h.box0;have b1:=h.box1;obtain⟨⟨d1,d2,d3,d4⟩,-⟩:=h2.toks i _ h2.tok;have e0:=h2.box0;have e1:=h2.box1;have pS:i<p.l.length:=h.lt;have hin:(0:Int)<=(i:Int)/\(i:Int)<(p.l.length:Int):=VS;generalize aM p.l i=t at c1 c2 c3 c4 d1 d2 d3 d4 ⊢;clear h h2;obtain⟨l,b,o,c,pb⟩:=p;simp only at *;go_enter Tryz.func50,Tryz.ntmps50
 go_wp2
 go_region
 go_wp2
 refine bodyPost_ret (v:=tokVal t) (by simp[results,Tryz.results50,go_sem]) rfl ⟨rfl,?_⟩;exact(aC _ _).drew
theorem tokF0(w:World)(a b c d:Value):(Instr.field 59 (.agg #[a,b,c,d]) 0).run Tryz.prog w=.ok a w:=VT
theorem tokF1(w:World)(a b c d:Value):(Instr.field 59 (.agg #[a,b,c,d]) 1).run Tryz.prog w=.ok b w:=VT
theorem tokF3(w:World)(a b c d:Value):(Instr.field 59 (.agg #[a,b,c,d]) 3).run Tryz.prog w=.ok d w:=VT
theorem stop_any(p:Prs)(w:World)(i:Nat)(e:Int)(h:p.At w i):Calls Tryz.prog 136 #[.pointer (some ⟨p.pb,0,none⟩),.int .i64 e] w fun en w'=>en=faultE ((aM p.l i).pos,e)/\Below w.heap.size w w':=by
 have HN:=zh (cJ p w i h);clear h;generalize aM p.l i=t at HN ⊢;obtain⟨l,b,o,c,pb⟩:=p;have F3:=tokF3;go_enter Tryz.func136,Tryz.ntmps136;go_wp2_with(go_at_call 50;refine HN.out.mono ?_;rintro e' w' ⟨rfl,hb⟩);exact⟨rfl,rfl,hb⟩
theorem lH(p:Prs)(w:World)(e:Int):Calls Tryz.prog 49 #[.pointer (some ⟨p.pb,0,none⟩),.bool true,.int .i64 e] w fun en w'=>en=.returned (.tuple #[])/\w=w':=by
 obtain⟨l,b,o,c,pb⟩:=p;go_enter Tryz.func49,Tryz.ntmps49;go_wp2_with fail;go_end0;exact⟨rfl,rfl⟩
theorem lY(p:Prs)(w:World)(i:Nat)(e:Int)(h:p.At w i):Calls Tryz.prog 49 #[.pointer (some ⟨p.pb,0,none⟩),.bool false,.int .i64 e] w fun en w'=>en=faultE ((aM p.l i).pos,e)/\Below w.heap.size w w':=by
 have HN:=zh (stop_any p w i e h);clear h;generalize aM p.l i=t at HN ⊢;obtain⟨l,b,o,c,pb⟩:=p;go_enter Tryz.func49,Tryz.ntmps49;go_wp2_with(go_at_call 136;refine HN.out.mono ?_;rintro e' w' ⟨rfl,hb⟩);exact⟨rfl,rfl,hb⟩
theorem fL(p:Prs)(w:World)(i:Nat)(b:Bool)(e:Int)(h:p.At w i):Calls Tryz.prog 49 #[.pointer (some ⟨p.pb,0,none⟩),.bool b,.int .i64 e] w fun en w'=>(b=true/\en=.returned (.tuple #[])/\w=w')\/(b=false/\en=faultE ((aM p.l i).pos,e)/\Below w.heap.size w w'):=by
 cases b with
 |true=>exact(lH p w e).mono fun en w' h=>.inl ⟨rfl,h⟩
 |false=>exact(lY p w i e h).mono fun en w' h=>.inr ⟨rfl,h⟩
theorem fU(p:Prs)(w:World)(i:Nat)(s:bA)(h:p.At w i):Calls Tryz.prog 112 #[.pointer (some ⟨p.pb,0,none⟩),.string s] w fun e w'=>e=.returned (.bool (isP p.l i s))/\Below w.heap.size w w':=by
 have HA:=zh h;have HN:=zh (fun W(hW:p.At W i)=>cJ p W i hW);have HI:Hid (isP p.l i s=(decide ((aM p.l i).kind≠3)&&decide ((aM p.l i).text=s))):=zh rfl;clear h;generalize isP p.l i s=q at HI ⊢;generalize aM p.l i=t at HN HI;have F0:=tokF0;have F1:=tokF1;by_cases hk:t.kind=3
 ·go_enter Tryz.func112,Tryz.ntmps112;go_wp2_with(go_at_call 50;refine(HN.out w HA.out).mono ?_;rintro e w1 ⟨rfl,pN⟩);go_ret;exact⟨aF (by rw[HI.out,decide_eq_false (by simp[hk])];rfl),pN⟩
 have GV:(t.kind != 3)=true:=by rw[bne_iff_ne];exact hk
 go_enter Tryz.func112,Tryz.ntmps112;go_wp2_with(first|(go_at_call 50;refine(HN.out w HA.out).mono ?_;rintro e w1 ⟨rfl,pN⟩;have zR:=zh (HA.out.later pN))|(go_at_call 50;refine(HN.out w1 zR.out).mono ?_;rintro e w2 ⟨rfl,pM⟩));go_ret;exact⟨aF (by rw[HI.out,decide_eq_true hk,eE];rfl),aA pN pM⟩
end Go.Proofs.YtiionicikdnnpaaGreatDoor
namespace Go.Proofs.YtiionicikdnnpaaGreatDoor
open Go.RowKit
theorem SQ{p:Prop}(h:p:=by
 obtain⟨m,hm⟩:=hg.maxLen;have HW:=zh (word_any s w VS);have HC:=zh (Tryz.strings_Contains jH ((bs [32]++s)++bs [32]) m w (by rw[reserved_size];decide) hm);have HN:Hid (aP s=(dL s&& !Lib.contains jH.data.toList ((bs [32]++s)++bs [32]).data.toList)):=zh rfl;clear hm hg;generalize Lib.contains jH.data.toList ((bs [32]++s)++bs [32]).data.toList=q at HC HN
 cases hw:dL s with
 |false=>
  rw[hw] at HW HN;clear hw;go_enter Tryz.func17,Tryz.ntmps17;go_wp2_with(go_at_call 59;refine HW.out.mono ?_;rintro e w1 ⟨rfl,rfl⟩);go_ret;exact⟨aF (by rw[HN.out];rfl),rfl⟩
 |true=>
  rw[hw] at HW HN;clear hw;go_enter Tryz.func17,Tryz.ntmps17;go_wp2_with(first|(go_at_call 59;refine HW.out.mono ?_;rintro e w1 ⟨rfl,rfl⟩)|(go_at_call 60;refine HC.out.mono ?_;rintro e w2 ⟨rfl,rfl⟩));go_ret
  exact⟨aF (by rw[HN.out];rfl),rfl⟩):p:=h
section
variable {p:Prs} {w:World} {i:Nat} {s:bA}
theorem isP_lt(h:p.At w i)(hq:isP p.l i s=true):i+1<p.l.length:=by
 refine h.last i _ h.tok ?_;unfold isP at hq;simp only[Bool.and_eq_true,decide_eq_true_eq] at hq;exact hq.1
theorem isNameP_lt(h:p.At w i)(hq:dC p.l i=true):i+1<p.l.length:=by
 refine h.last i _ h.tok ?_;unfold dC at hq;simp only[Bool.and_eq_true,decide_eq_true_eq] at hq;omega
theorem Prs.At.bound(h:p.At w i):(0:Int)<=(i:Int)/\(i:Int)<8001:=by have:=h.lt;have:=h.len;omega
end
theorem fK(p:Prs)(w:World)(i:Nat)(s:bA)(h:p.At w i)(hq:isP p.l i s=true):
  Calls Tryz.prog 120 #[.pointer (some ⟨p.pb,0,none⟩),.string s] w fun e w'=>e=.returned (.bool true)/\p.At w' (i+1)/\Off p.S w w':=by
 have HA:=zh h;have HI:=zh (fU p w i s h);rw[hq] at HI;have hl:=isP_lt h hq;have hb:=h.bound;clear h hq;go_enter Tryz.func120,Tryz.ntmps120;go_wp2_with(go_at_call 112;refine HI.out.mono ?_;rintro e w1 ⟨rfl,pN⟩;have zR:=zh (HA.out.later pN);have b1:=zR.out.box1;have f1:=zR.out.froz);go_ret;exact⟨rfl,(zR.out.step hl).1,(Ba pN).trans (zR.out.step hl).2⟩
theorem bH(p:Prs)(w:World)(i:Nat)(s:bA)(h:p.At w i)(hq:isP p.l i s=false):
  Calls Tryz.prog 120 #[.pointer (some ⟨p.pb,0,none⟩),.string s] w fun e w'=>e=.returned (.bool false)/\p.At w' i/\Off p.S w w':=by
 have HA:=zh h;have HI:=zh (fU p w i s h);rw[hq] at HI;clear h hq;go_enter Tryz.func120,Tryz.ntmps120;go_wp2_with(go_at_call 112;refine HI.out.mono ?_;rintro e w1 ⟨rfl,pN⟩);go_ret;exact⟨rfl,HA.out.later pN,Ba pN⟩
theorem mN(p:Prs)(w:World)(i:Nat)(s:bA)(h:p.At w i):
  Calls Tryz.prog 120 #[.pointer (some ⟨p.pb,0,none⟩),.string s] w fun e w'=>e=.returned (.bool (isP p.l i s))/\p.At w' (if isP p.l i s then i+1 else i)/\Off p.S w w':=by
 cases hq:isP p.l i s with
 |true=>exact fK p w i s h hq
 |false=>exact bH p w i s h hq
theorem dD(p:Prs)(w:World)(i:Nat)(s:bA)(h:p.At w i):
  Calls Tryz.prog 110 #[.pointer (some ⟨p.pb,0,none⟩),.string s] w (Ran p.S w (dN p.l i s) fun _ j e w'=>e=.returned (.tuple #[])/\p.At w' j):=by
 cases hq:isP p.l i s with
 |true=>
  have HW:Hid (dN p.l i s=.ok ((),i+1)):=zh (by unfold dN;rw[hq];rfl);have HH:=zh (fK p w i s h hq);clear h hq;go_enter Tryz.func110,Tryz.ntmps110;go_wp2_with(first|(go_at_call 120;refine HH.out.mono ?_;rintro e w1 ⟨rfl,qV,qI⟩)|(go_at_call 49;refine(lH p _ _).mono ?_;rintro e w2 ⟨rfl,rfl⟩));go_end0;exact Ran.good HW.out ⟨rfl,qV⟩ qI
 |false=>
  have HW:Hid (dN p.l i s=.error ((aM p.l i).pos,11)):=zh (by unfold dN;rw[hq];rfl);have HH:=zh (bH p w i s h hq);clear h hq;go_enter Tryz.func110,Tryz.ntmps110;go_wp2_with(first|(go_at_call 120;refine HH.out.mono ?_;rintro e w1 ⟨rfl,qV,qI⟩)|(go_at_call 49;refine(lY p _ i _ qV).mono ?_;rintro e w2 ⟨rfl,pM⟩));exact⟨rfl,Ran.bad HW.out (qI.trans (Ba pM))⟩
theorem end_any(p:Prs)(w:World)(i:Nat)(fits:Bool)(s:bA)(h:p.At w i):
  Calls Tryz.prog 116 #[.pointer (some ⟨p.pb,0,none⟩),.bool fits,.string s] w (Ran p.S w (mF p.l i fits s) fun _ j e w'=>e=.returned (.tuple #[])/\p.At w' j):=by
 have HI:=zh (fU p w i s h);have HA:=zh h;have hb:=h.bound
 cases hq:isP p.l i s with
 |false=>
  have HW:Hid (mF p.l i fits s=.error ((aM p.l i).pos,11)):=zh (by unfold mF;rw[hq];rfl);rw[hq] at HI;clear h hq;go_enter Tryz.func116,Tryz.ntmps116;go_wp2_with(first|(go_at_call 112;refine HI.out.mono ?_;rintro e w1 ⟨rfl,pN⟩;have qV:=zh (HA.out.later pN))|(go_at_call 49;refine(lY p _ i _ qV.out).mono ?_;rintro e w2 ⟨rfl,pM⟩));exact⟨rfl,Ran.bad HW.out (Ba (aA pN pM))⟩
 |true=>
  have hl:=isP_lt h hq
  cases fits with
  |false=>
   have HW:Hid (mF p.l i false s=.error ((aM p.l i).pos,6)):=zh (by unfold mF;rw[hq];rfl);rw[hq] at HI;clear h hq;go_enter Tryz.func116,Tryz.ntmps116;go_wp2_with(first|(go_at_call 112;refine HI.out.mono ?_;rintro e w1 ⟨rfl,pN⟩;have qV:=zh (HA.out.later pN))|(go_at_call 49;refine(fL p _ i _ _ qV.out).mono ?_;rintro e w2 (⟨he,rfl,rfl⟩|⟨he,rfl,pM⟩)<;>first|(cases he;done)|skip));exact⟨rfl,Ran.bad HW.out (Ba (aA pN pM))⟩
  |true=>
   have HW:Hid (mF p.l i true s=.ok ((),i+1)):=zh (by unfold mF;rw[hq];rfl);rw[hq] at HI;clear h hq;go_enter Tryz.func116,Tryz.ntmps116;go_wp2_with(first|(go_at_call 112;refine HI.out.mono ?_;rintro e w1 ⟨rfl,pN⟩;have qV:=zh (HA.out.later pN);have b1:=qV.out.box1;have f1:=qV.out.froz)|(go_at_call 49;refine(lH p _ _).mono ?_;rintro e w2 ⟨rfl,rfl⟩));go_end0;exact Ran.good HW.out ⟨rfl,(qV.out.step hl).1⟩ ((Ba pN).trans (qV.out.step hl).2)
theorem reserved_size:jH.size=124:=VT
theorem iL(s:bA)(w:World)(hs:s.size<=16000)(hg:hZ w):
  Calls Tryz.prog 17 #[.string s] w fun e w'=>e=.returned (.bool (aP s))/\w=w':=by
 exact SQ
end Go.Proofs.YtiionicikdnnpaaGreatDoor
namespace Go.Proofs.YtiionicikdnnpaaGreatDoor
open Go.RowKit
theorem TD{p:Prop}(h:p:=by
 go_wp2_with(first|(go_at_call 182;refine HI.out.mono ?_;rintro e w1 ⟨rfl,pN⟩;have qV:=zh (HA.out.later pN))|(go_at_call 49;refine(lY p _ i _ qV.out).mono ?_;rintro e w2 ⟨rfl,pM⟩))
 exact⟨rfl,Ran.bad HW.out (Ba (aA pN pM))⟩):p:=h
theorem hM(p:Prs)(w:World)(i:Nat)(h:p.At w i):Calls Tryz.prog 182 #[.pointer (some ⟨p.pb,0,none⟩)] w fun e w'=>e=.returned (.bool (dC p.l i))/\Below w.heap.size w w':=by
 have HA:=zh h;have HN:=zh (fun W(hW:p.At W i)=>cJ p W i hW);have tT:=(h.toks i _ h.tok).2;have HM:=zh (fun W(hW:p.At W i)=>iL (aM p.l i).text W VS hW.glob);have HI:Hid (dC p.l i=(decide ((aM p.l i).kind=0)&&aP (aM p.l i).text)):=zh rfl;clear h tT;generalize dC p.l i=q at HI ⊢;generalize aM p.l i=t at HN HI HM;have F0:=tokF0;have F1:=tokF1;by_cases hk:t.kind=0
 ·go_enter Tryz.func182,Tryz.ntmps182;go_wp2_with(first|(go_at_call 50;refine(HN.out w HA.out).mono ?_;rintro e w1 ⟨rfl,pN⟩;have zR:=zh (HA.out.later pN))|(go_at_call 50;refine(HN.out w1 zR.out).mono ?_;rintro e w2 ⟨rfl,pM⟩;have yM:=zh (zR.out.later pM))|(go_at_call 17;refine(HM.out w2 yM.out).mono ?_;rintro e w3 ⟨rfl,rfl⟩));go_ret;exact⟨aF (by rw[HI.out,decide_eq_true hk];rfl),aA pN pM⟩
 have GV:(t.kind==0)=false:=by rw[beq_eq_false_iff_ne];exact hk
 go_enter Tryz.func182,Tryz.ntmps182;go_wp2_with(go_at_call 50;refine(HN.out w HA.out).mono ?_;rintro e w1 ⟨rfl,pN⟩);go_ret;exact⟨aF (by rw[HI.out,decide_eq_false hk];rfl),pN⟩
theorem Prs.At.stepped{p:Prs}{w:World}{i:Nat}(h:p.At w i)(hl:i+1<p.l.length):
  (w.setCell ⟨p.pb,1,none⟩ (.int .i64 ((i:Int)+1))).cell? ⟨p.pb,0,none⟩=some (.slice (some ⟨p.b,p.o,none⟩) p.l.length p.c)/\(w.setCell ⟨p.pb,1,none⟩ (.int .i64 ((i:Int)+1))).cell? ⟨p.pb,1,none⟩=some (.int .i64 ((i:Int)+1))/\
  (w.setCell ⟨p.pb,1,none⟩ (.int .i64 ((i:Int)+1))).cell? ⟨p.b,p.o+i*4+1,none⟩=some (.string (aM p.l i).text):=by
 have h2:=(h.step hl).1;have ht:p.l[i]? =some (aM p.l i):=h.tok;exact⟨h2.box0,by simpa using h2.box1,(h2.toks i _ ht).1.2.1⟩
theorem aE(w:World):Below w.heap.size w w.drew:=(Below.refl _ _).drew
theorem fH(p:Prs)(w:World)(i:Nat)(h:p.At w i):
  Calls Tryz.prog 111 #[.pointer (some ⟨p.pb,0,none⟩)] w (Ran p.S w (fR p.l i) fun a j e w'=>e=.returned (.string a)/\p.At w' j/\a.size<=8000):=by
 have HA:=zh h;have HI:=zh (hM p w i h);have hb:=h.bound;have tT:=zh (h.toks i _ h.tok).2
 cases hq:dC p.l i with
 |false=>
  have HW:Hid (fR p.l i=.error ((aM p.l i).pos,11)):=zh ZF;rw[hq] at HI;clear h hq;go_enter Tryz.func111,Tryz.ntmps111;exact TD
 |true=>
  have hl:=isNameP_lt h hq;have HW:Hid (fR p.l i=.ok ((aM p.l i).text,i+1)):=zh ZF;rw[hq] at HI;have hin:(0:Int)<=(i:Int)/\(i:Int)<(p.l.length:Int):=VS;clear h hq;go_enter Tryz.func111,Tryz.ntmps111;go_wp2_with(first|(go_at_call 182;refine HI.out.mono ?_;rintro e w1 ⟨rfl,pN⟩;have qV:=zh (HA.out.later pN);have b1:=qV.out.box1;have f1:=qV.out.froz)|(go_at_call 49;refine(lH p _ _).mono ?_;rintro e w2 ⟨rfl,rfl⟩;obtain⟨d0,d1,d2⟩:=qV.out.stepped hl));go_region
  go_wp2_with fail;go_ret;exact Ran.good HW.out ⟨rfl,(qV.out.step hl).1.later (aE _),tT.out⟩ ((Ba pN).trans (qV.out.step hl).2).drew
theorem TB{p:Prop}(h:p:=by
 constructor
 ·rintro⟨h1,h2⟩ i y hy
  cases i with
  |zero=>simp at hy;subst hy;simpa using h1
  |succ i=>
   obtain⟨cs,a1,a2,a3⟩:=h2 i y ZK;exact⟨cs,a1,a2,fun j u hu=>by have:=a3 j u hu;rw[show o+(i+1)*6+j=o+6+i*6+j by omega];exact this⟩
 intro h;refine⟨by simpa using h 0 x rfl,fun i y hy=>?_⟩;obtain⟨cs,a1,a2,a3⟩:=h (i+1) y ZK
 exact⟨cs,a1,a2,fun j u hu=>by have:=a3 j u hu;rw[show o+6+i*6+j=o+(i+1)*6+j by omega];exact this⟩):p:=h
theorem TK{p:Prop}(h:p:=by
 intro h;refine⟨?_,fun i y hy=>?_⟩
 ·obtain⟨cs,⟨ct,rfl,hn,h1⟩,-,a3⟩:=h 0 (n,t) rfl;refine⟨by simpa using a3 0 (.string n) rfl,hn,ct,h1,fun j u hu=>?_⟩;have:=a3 (j+1) u (by simpa using hu);rw[show o+1+j=o+0*3+(j+1) by omega];exact this
 obtain⟨cs,a1,a2,a3⟩:=h (i+1) y ZK
 exact⟨cs,a1,a2,fun j u hu=>by have:=a3 j u hu;rw[show o+3+i*3+j=o+(i+1)*3+j by omega];exact this⟩):p:=h
theorem UV{p:Prop}(h:p:=by
 obtain⟨cs,a1,a2,a3⟩:=h2 i y ZK
 exact⟨cs,a1,a2,fun j u hu=>by have:=a3 j u hu;rw[show o+(i+1)*3+j=o+3+i*3+j by omega];exact this⟩):p:=h
theorem UZ{p:Prop}(h:p:=by
 cases j with
 |zero=>simp at hu;subst hu;simpa using h0
 |succ j=>have:=h3 j u (by simpa using hu);rw[show o+0*3+(j+1)=o+1+j by omega];exact this):p:=h
mutual
def aU(N:Nat->Prop)(w:World):Xp->List Value->Prop
 | .mk op n s m names args,cs=>∃vn va,cs=[.int .i64 op,.int .i64 n,.string s,.string m,vn,va]/\s.size<=8000/\m.size<=8000/\aO 1 eT N w vn names/\
   ∃a c,va=.slice a args.length c/\args.length<=c/\c<=9223372036854775807/\(args≠[]->∃b o,a=some ⟨b,o,none⟩/\N b/\pE N w b o args)
def pE(N:Nat->Prop)(w:World)(b:Nat):Nat->List Xp->Prop
 |_,[]=>True
 |o,x::r=>(∃cs,aU N w x cs/\cs.length=6/\∀j u,cs[j]? =some u->w.cell? ⟨b,o+j,none⟩=some u)/\pE N w b (o+6) r
end
mutual
def eX(N:Nat->Prop)(w:World):Ty->List Value->Prop
 | .mk kind fields,cs=>∃vf,cs=[.int .i64 kind,vf]/\∃a c,vf=.slice a fields.length c/\fields.length<=c/\c<=9223372036854775807/\(fields≠[]->∃b o,a=some ⟨b,o,none⟩/\N b/\pG N w b o fields)
def pG(N:Nat->Prop)(w:World)(b:Nat):Nat->List (bA×Ty)->Prop
 |_,[]=>True
 |o,(n,t)::r=>(w.cell? ⟨b,o,none⟩=some (.string n)/\n.size<=8000/\∃cs,eX N w t cs/\∀j u,cs[j]? =some u->w.cell? ⟨b,o+1+j,none⟩=some u)/\pG N w b (o+3) r
end
def eH(N:Nat->Prop)(w:World)(f:Fld)(cs:List Value):Prop:=∃ct,cs=.string f.1::ct/\f.1.size<=8000/\eX N w f.2 ct
section
variable {N N':Nat->Prop} {w w':World}
theorem encXs_iff(b:Nat):∀(l:List Xp)(o:Nat),pE N w b o l↔∀i x,l[i]? =some x->∃cs,aU N w x cs/\cs.length=6/\∀j u,cs[j]? =some u->w.cell? ⟨b,o+i*6+j,none⟩=some u
 |[],o=>by simp[pE]
 |x::r,o=>by
  unfold pE;rw[encXs_iff b r (o+6)];exact TB
theorem aN(op n:Int)(s m:bA)(names:List bA)(args:List Xp)(cs:List Value):aU N w (.mk op n s m names args) cs↔
  ∃vn va,cs=[.int .i64 op,.int .i64 n,.string s,.string m,vn,va]/\s.size<=8000/\m.size<=8000/\aO 1 eT N w vn names/\aO 6 aU N w va args:=by
 unfold aU aO;simp only[encXs_iff]
mutual
theorem encX_moves(hm:aK N w N' w'):∀(x:Xp)(cs:List Value),aU N w x cs->aU N' w' x cs
 | .mk op n s m names args,cs,h=>by
  unfold aU at h ⊢;obtain⟨vn,va,hc,h1,h2,h3,a,c,h4,h5,h6,h7⟩:=h;refine⟨vn,va,hc,h1,h2,h3.moves aT hm VU,a,c,h4,h5,h6,fun pP=>?_⟩;obtain⟨b,o,ha,hb,hx⟩:=h7 pP
  have pS:b<w.heap.size:=by
   cases args with
   |nil=>exact absurd rfl pP
   |cons x r=>
    unfold pE at hx;obtain⟨⟨cs,-,hl,hj⟩,-⟩:=hx;exact T8
  exact⟨b,o,ha,(hm b hb pS).1,encXs_moves hm b hb pS args o hx⟩
theorem encXs_moves(hm:aK N w N' w')(b:Nat)(hb:N b)(pS:b<w.heap.size):∀(l:List Xp)(o:Nat),pE N w b o l->pE N' w' b o l
 |[],_,_=>by unfold pE;trivial
 |x::r,o,h=>by
  unfold pE at h ⊢;obtain⟨⟨cs,h1,h2,h3⟩,h4⟩:=h;exact⟨⟨cs,encX_moves hm x cs h1,h2,fun j u hu=>(hm b hb pS).2 _ _ (h3 j u hu)⟩,encXs_moves hm b hb pS r (o+6) h4⟩
end
theorem aG:eF aU:=fun _ _ _ _ x cs hm h=>encX_moves hm x cs h
theorem encT_len:∀{t:Ty}{cs:List Value},eX N w t cs->cs.length=2
 | .mk _ _,_,h=>by unfold eX at h;obtain⟨vf,rfl,-⟩:=h;rfl
theorem encFs_iff(b:Nat):∀(l:List Fld)(o:Nat),pG N w b o l↔∀i x,l[i]? =some x->∃cs,eH N w x cs/\cs.length=3/\∀j u,cs[j]? =some u->w.cell? ⟨b,o+i*3+j,none⟩=some u
 |[],o=>by simp[pG]
 |(n,t)::r,o=>by
  unfold pG;rw[encFs_iff b r (o+3)];constructor
  ·rintro⟨⟨h0,hn,ct,h1,h3⟩,h2⟩ i y hy
   cases i with
   |zero=>
    simp at hy;subst hy;refine⟨.string n::ct,⟨ct,rfl,hn,h1⟩,by simp[encT_len h1],fun j u hu=>?_⟩;exact UZ
   |succ i=>
    exact UV
  exact TK
theorem dY(kind:Int)(fields:List Fld)(cs:List Value):eX N w (.mk kind fields) cs↔∃vf,cs=[.int .i64 kind,vf]/\aO 3 eH N w vf fields:=by
 unfold eX aO;simp only[encFs_iff]
mutual
theorem encT_moves(hm:aK N w N' w'):∀(t:Ty)(cs:List Value),eX N w t cs->eX N' w' t cs
 | .mk kind fields,cs,h=>by
  unfold eX at h ⊢;obtain⟨vf,hc,a,c,h4,h5,h6,h7⟩:=h;refine⟨vf,hc,a,c,h4,h5,h6,fun pP=>?_⟩;obtain⟨b,o,ha,hb,hx⟩:=h7 pP
  have pS:b<w.heap.size:=by
   cases fields with
   |nil=>exact absurd rfl pP
   |cons x r=>
    obtain⟨n,t⟩:=x;unfold pG at hx;exact gZ hx.1.1
  exact⟨b,o,ha,(hm b hb pS).1,encFs_moves hm b hb pS fields o hx⟩
theorem encFs_moves(hm:aK N w N' w')(b:Nat)(hb:N b)(pS:b<w.heap.size):∀(l:List (bA×Ty))(o:Nat),pG N w b o l->pG N' w' b o l
 |[],_,_=>by unfold pG;trivial
 |(n,t)::r,o,h=>by
  unfold pG at h ⊢;obtain⟨⟨h0,hn,cs,h1,h3⟩,h4⟩:=h;exact⟨⟨(hm b hb pS).2 _ _ h0,hn,cs,encT_moves hm t cs h1,fun j u hu=>(hm b hb pS).2 _ _ (h3 j u hu)⟩,encFs_moves hm b hb pS r (o+3) h4⟩
end
theorem cB:eF eX:=fun _ _ _ _ x cs hm h=>encT_moves hm x cs h
theorem aS:eF eH:=fun _ _ _ _ x cs hm h=>by
 obtain⟨ct,h1,h2,h3⟩:=h;exact⟨ct,h1,h2,encT_moves hm _ _ h3⟩
end
theorem aO.of_block{α:Type}{k:Nat}{enc:(Nat->Prop)->World->α->List Value->Prop}{N:Nat->Prop}{w:World}{b:Nat}{css:List (List Value)}{l:List α}{T:TypeId}{fr:Nat×Nat}{n:Nat}(hb:w.heap[b]? =some (.cells css.flatten.toArray T fr))(hN:N b)
  (hl:css.length=l.length) (hk:∀c,c∈css->c.length=k) (he:∀(i:Nat)(x:α)(c:List Value),l[i]? =some x->css[i]? =some c->enc N w x c) (hn:l.length=n) (rK:n<=9223372036854775807):
  aO k enc N w (.slice (some ⟨b,0,none⟩) n n) l:=by
 subst hn;refine⟨_,_,rfl,Nat.le_refl _,rK,fun _=>⟨b,0,rfl,hN,fun i x hx=>?_⟩⟩;have hi:=(Yb.1 hx).1;obtain⟨c,hc⟩:∃c,css[i]? =some c:=⟨_,List.getElem?_eq_getElem (by rw[hl];exact hi)⟩;have hck:=hk c (List.mem_of_getElem? hc);refine⟨c,he i x c hx hc,hck,fun j u hu=>?_⟩;have hj:j<k:=by rw[<-hck];exact(Yb.1 hu).1
 have hf:=flatten_at css hk i c j hc hj;rw[hu] at hf;have h2:css.flatten.toArray[i*k+j]? =some u:=by simpa using hf
 rw[Nat.zero_add];simp[World.cell?,hb,h2]
theorem oD:∀(l:List Fld)(k:Nat)(x:Fld),l[k]? =some x->cX (l.take (k+1))=max (cX (l.take k)) (bL x.2)
 |[],k,x,h=>XR
 |y::l,0,x,h=>by
  simp at h;subst h;obtain⟨n,t⟩:=y;simp[cX]
 |y::l,k+1,x,h=>by
  have:=oD l k x XE;obtain⟨n,t⟩:=y;simp only[List.take_succ_cons,cX,this,Nat.max_assoc]
theorem gO:∀(l:List Fld)(x:Fld),x∈l->bL x.2<=cX l
 |[],x,h=>WV
 |(n,t)::l,x,h=>by
  unfold cX;rcases List.mem_cons.1 h with rfl|h
  ·exact Nat.le_max_left _ _
  exact Nat.le_trans (gO l x h) (Nat.le_max_right _ _)
theorem depthXs_take:∀(l:List Xp)(k:Nat)(x:Xp),l[k]? =some x->eN (l.take (k+1))=max (eN (l.take k)) (bI x)
 |[],k,x,h=>XR
 |y::l,0,x,h=>by simp at h;subst h;simp[eN]
 |y::l,k+1,x,h=>by
  have:=depthXs_take l k x XE;simp only[List.take_succ_cons,eN,this,Nat.max_assoc]
theorem iA:∀(l:List Xp)(x:Xp),x∈l->bI x<=eN l
 |[],x,h=>WV
 |y::l,x,h=>by
  unfold eN;rcases List.mem_cons.1 h with rfl|h
  ·exact Nat.le_max_left _ _
  exact Nat.le_trans (iA l x h) (Nat.le_max_right _ _)
end Go.Proofs.YtiionicikdnnpaaGreatDoor
namespace Go.Proofs.YtiionicikdnnpaaGreatDoor
open Go.RowKit
theorem UG{p:Prop}(h:p:=by
 go_wp2_with fail;go_loop [3,9] (fun m i=>m=.int .i64 0/\i=.int .i64 0) (fun _ _=>0)
 case atStart=>exact⟨rfl,rfl⟩
 case round=>
  obtain⟨rfl,rfl⟩:=hrel;go_wp2_with fail;go_ret
  exact⟨rfl,aC _ _⟩):p:=h
theorem U2{p:Prop}(h:p:=by
 go_roundw;case rel=>exact⟨q+1,VS,WH,by rw[HT.out];go_num,zh (aA HB.out (aA (aC _ _) pN))⟩
 case measure=>simp[intOf];omega):p:=h
theorem levelsFs_le:∀(l:List Fld)(k:Nat),cX (l.take k)<=cX l
 |[],k=>VY
 |x::l,0=>by simp[cX]
 |(n,t)::l,k+1=>by
  have:=levelsFs_le l k;simp only[List.take_succ_cons,cX];omega
theorem depthXs_le:∀(l:List Xp)(k:Nat),eN (l.take k)<=eN l
 |[],k=>VY
 |x::l,0=>by simp[eN]
 |x::l,k+1=>by
  have:=depthXs_le l k;simp only[List.take_succ_cons,eN];omega
theorem levels_any:∀(d:Nat)(t:Ty)(N:Nat->Prop)(k:Int)(vf:Value)(w:World),bL t<=d->bL t<=9000000000000000000->eX N w t [.int .i64 k,vf]->
  Calls Tryz.prog 117 #[.agg #[.int .i64 k,vf]] w fun e w'=>e=.returned (.int .i64 (bL t:Nat))/\Below w.heap.size w w'
 |0,t,_,_,_,_,hd,_,_=>by cases t;simp[bL] at hd
 |d+1,.mk kind fields,N,k,vf,w,hd,rK,he=>by
  rw[dY] at he;obtain⟨vf',hv,hr⟩:=he;cases hv;have AO:bL (.mk kind fields)=cX fields+1:=by rw[bL]
  rw[AO] at hd rK ⊢;clear AO;have RA:=zh (fun t N k vf w h1 h2 h3=>levels_any d t N k vf w h1 h2 h3);rcases hr.cases VU with⟨rfl,a,c,rfl⟩|⟨b,o,c,rfl,h0,h1,h2,hb,hN,hc⟩
  ·clear hr;go_enter Tryz.func117,Tryz.ntmps117;exact UG
  have HC:=zh hc;clear hc hr;go_enter Tryz.func117,Tryz.ntmps117;go_wp2_with fail;go_loopw [3,9] (fun m i wr=>∃q:Nat,q<=fields.length/\i=.int .i64 q/\m=.int .i64 (cX (fields.take q):Nat)/\Hid (Below w.heap.size w wr)) (fun _ i _=>fields.length-(intOf i).toNat)
  case atStart=>exact⟨0,Nat.zero_le _,rfl,by simp[cX],zh (aC _ _)⟩
  case round=>
   obtain⟨q,hq,rfl,rfl,HB⟩:=hrel;(rename World=>wr);by_cases pS:q<fields.length
   ·obtain⟨x,hx,uE⟩:=getElem?_of_lt pS;obtain⟨cs,⟨ct,rfl,hn,tI⟩,-,hj⟩:=HC.out q x hx;have hm:=gO fields x uE;have HT:Hid (cX (fields.take (q+1))=max (cX (fields.take q)) (bL x.2)):=zh (oD fields q x hx);obtain⟨nm,ty⟩:=x
    cases ty with
    |mk k2 f2=>
     have xF:=tI;rw[dY] at xF;obtain⟨vf2,rfl,zK⟩:=xF;obtain⟨a2,cc2,rfl,-⟩:=zK;have c0:wr.cell? ⟨b,o+q*3,none⟩=some (.string nm):=aB HB.out (hj 0 _ rfl);have c1:=aB HB.out (hj 1 _ rfl);have c2:=aB HB.out (hj 2 _ rfl);have HE:=zh (fun W(h:Below w.heap.size w W)=>cB _ _ _ _ _ _ (aK.later h) tI);have HL:=zh (fun W h=>RA.out (.mk k2 f2) N k2 _ W (by simp only at hm;omega) (by simp only at hm;omega) (HE.out W h));simp only at HT;have hmx:=HT.out;have IX:cX (fields.take (q+1))<=cX fields:=levelsFs_le fields _;clear hj hx uE tI hm hn;generalize bL (.mk k2 f2)=lv at HL HT hmx;generalize cX (fields.take q)=l0 at HT hmx ⊢;go_wp2_with(go_at_call 117;refine(HL.out _ (aA HB.out (aC _ _))).mono ?_;rintro e w1 ⟨rfl,pN⟩);exact U2
   have uM:q=fields.length:=VS;subst uM;rw[List.take_length];generalize IX:cX fields=lv at rK ⊢;have HV:=zh IX;clear IX;go_wp2_with fail;go_ret;exact⟨ret_int (by have:=HV.out;omega),HB.out⟩
theorem depth_any:∀(d:Nat)(x:Xp)(N:Nat->Prop)(op n:Int)(s m:bA)(vn va:Value)(w:World),bI x<=d->bI x<=9000000000000000000->aU N w x [.int .i64 op,.int .i64 n,.string s,.string m,vn,va]->
  Calls Tryz.prog 51 #[jA op n s m vn va] w fun e w'=>e=.returned (.int .i64 (bI x:Nat))/\Below w.heap.size w w'
 |0,x,_,_,_,_,_,_,_,_,hd,_,_=>by cases x;simp[bI] at hd
 |d+1,.mk op n s m names args,N,op',n',s',m',vn,va,w,hd,rK,he=>by
  rw[aN] at he;obtain⟨vn',va',hv,-,-,hrn,hr⟩:=he;cases hv;have AO:bI (.mk op n s m names args)=eN args+1:=by rw[bI]
  rw[AO] at hd rK ⊢;clear AO;have RA:=zh (fun x N op n s m vn va w h1 h2 h3=>depth_any d x N op n s m vn va w h1 h2 h3);obtain⟨an,cn,rfl,-⟩:=hrn;rcases hr.cases VU with⟨rfl,a,c,rfl⟩|⟨b,o,c,rfl,h0,h1,h2,hb,hN,hc⟩
  ·clear hr;go_enter Tryz.func51,Tryz.ntmps51;exact UG
  have HC:=zh hc;clear hc hr;go_enter Tryz.func51,Tryz.ntmps51;go_wp2_with fail;go_loopw [3,9] (fun m i wr=>∃q:Nat,q<=args.length/\i=.int .i64 q/\m=.int .i64 (eN (args.take q):Nat)/\Hid (Below w.heap.size w wr)) (fun _ i _=>args.length-(intOf i).toNat)
  case atStart=>exact⟨0,Nat.zero_le _,rfl,by simp[eN],zh (aC _ _)⟩
  case round=>
   obtain⟨q,hq,rfl,rfl,HB⟩:=hrel;(rename World=>wr);by_cases pS:q<args.length
   ·obtain⟨x,hx,uE⟩:=getElem?_of_lt pS;obtain⟨cs,tI,-,hj⟩:=HC.out q x hx;have hm:=iA args x uE;have HT:Hid (eN (args.take (q+1))=max (eN (args.take q)) (bI x)):=zh (depthXs_take args q x hx)
    cases x with
    |mk sH n2 s2 m2 names2 args2=>
     have xF:=tI;rw[aN] at xF;obtain⟨vn2,va2,rfl,-,-,FC,zK⟩:=xF;obtain⟨a1,cc1,rfl,-⟩:=FC;obtain⟨a2,cc2,rfl,-⟩:=zK;have c0:wr.cell? ⟨b,o+q*6,none⟩=some (.int .i64 sH):=aB HB.out (hj 0 _ rfl);have c1:=aB HB.out (hj 1 _ rfl);have c2:=aB HB.out (hj 2 _ rfl);have c3:=aB HB.out (hj 3 _ rfl);have c4:=aB HB.out (hj 4 _ rfl);have c5:=aB HB.out (hj 5 _ rfl);have HE:=zh (fun W(h:Below w.heap.size w W)=>aG _ _ _ _ _ _ (aK.later h) tI);have HL:=zh (fun W h=>RA.out (.mk sH n2 s2 m2 names2 args2) N sH n2 s2 m2 _ _ W VS VS (HE.out W h));have hmx:=HT.out;have IX:eN (args.take (q+1))<=eN args:=depthXs_le args _;clear hj hx uE tI hm;generalize bI (.mk sH n2 s2 m2 names2 args2)=lv at HL HT hmx;generalize eN (args.take q)=l0 at HT hmx ⊢;go_wp2_with(go_at_call 51;refine(HL.out _ (aA HB.out (aC _ _))).mono ?_;rintro e w1 ⟨rfl,pN⟩);exact U2
   have uM:q=args.length:=VS;subst uM;rw[List.take_length];generalize IX:eN args=lv at rK ⊢;have HV:=zh IX;clear IX;go_wp2_with fail;go_ret;exact⟨ret_int (by have:=HV.out;omega),HB.out⟩
end Go.Proofs.YtiionicikdnnpaaGreatDoor
