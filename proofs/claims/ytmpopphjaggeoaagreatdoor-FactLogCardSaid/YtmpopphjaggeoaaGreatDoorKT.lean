/- Texts of this seat, joined. -/
import Derived.Test.YtmpopphjaggeoaaGreatDoorLexC
import Derived.Test.YtmpopphjaggeoaaGreatDoorKR
set_option linter.unusedVariables false
set_option linter.unusedSimpArgs false
set_option linter.constructorNameAsVariable false
namespace Go.Proofs.YtmpopphjaggeoaaGreatDoor
open Go.RowKit
abbrev tokCells(t:Tok):List Value:=[.int .i64 t.kind,.string t.text,.int .i64 t.n,.int .i64 t.pos]
def encTok(_:Nat->Prop)(_:World)(x:Tok)(cs:List Value):Prop:=cs=tokCells x/\x.text.size<=8000
theorem gD{u w w':World}{row:Option Nat}(h:Below u.heap.size u w)(hg:w.grownBy w' row)(hr:∀b,row=some b->u.heap.size<=b):Below u.heap.size u w':=
 ⟨hg.os.trans h.os,hg.tape.trans h.tape,hg.output.trans h.output,Nat.le_trans h.size hg.size,fun k hk=>(hg.block k (by have:=h.size;omega) (fun e=>by have:=hr k e.symm;omega)).trans (h.block k hk)⟩
structure Prs where
 l:List Tok
 b:Nat
 o:Nat
 c:Nat
 pb:Nat
structure Prs.At (p:Prs) (w:World) (i:Nat):Prop where
 box:w.heap[p.pb]? =some (.cells #[.slice (some ⟨p.b,p.o,none⟩) p.l.length p.c,.int .i64 (i:Int)] 152)
 toks:∀k t,p.l[k]? =some t->(w.cell? ⟨p.b,p.o+k*4,none⟩=some (.int .i64 t.kind)/\w.cell? ⟨p.b,p.o+k*4+1,none⟩=some (.string t.text)/\w.cell? ⟨p.b,p.o+k*4+2,none⟩=some (.int .i64 t.n)/\w.cell? ⟨p.b,p.o+k*4+3,none⟩=some (.int .i64 t.pos))/\t.text.size<=8000
 ne:p.b≠p.pb
 lt:i<p.l.length
 len:p.l.length<=8001
 cap:p.l.length<=p.c/\p.c<=9223372036854775807
 last:∀k t,p.l[k]? =some t->t.kind≠3->k+1<p.l.length
 glob:bC w
 spc:Lib.TabIs Tryz.prog w "strings.asciiSpace" .u8 Lib.asciiSpaceTab
 gne:∀k,k<11->k≠p.pb
abbrev Prs.v(p:Prs):Value:=.pointer (some ⟨p.pb,0,none⟩)
abbrev Prs.S(p:Prs):Nat->Prop:=fun k=>k=p.pb
section
variable {p:Prs} {w w':World} {i:Nat}
theorem bC.off{S:Nat->Prop}(h:bC w)(ho:Off S w w')(hS:∀k,k<11->¬S k):bC w':=by
 have hb:=h.big;refine⟨Nat.le_trans h.big ho.size,?_,?_,?_,fun i x hx=>ho.cell (hS _ CR) (h.signs i x hx)⟩
 ·obtain⟨m,hm⟩:=h.maxLen;exact⟨m,ho.cell (hS _ CR) hm⟩
 ·have:Below 11 w w':=⟨ho.os,ho.tape,ho.output,ho.size,fun k hk=>ho.block k CR (hS k hk)⟩;exact var?_below (g:=2) this CQ CR h.pow10
 have:Below 11 w w':=⟨ho.os,ho.tape,ho.output,ho.size,fun k hk=>ho.block k CR (hS k hk)⟩;exact var?_below (g:=3) this CQ CR h.spc
theorem spc_off{S:Nat->Prop}(h:Lib.TabIs Tryz.prog w "strings.asciiSpace" .u8 Lib.asciiSpaceTab)(hb:11<=w.heap.size)(ho:Off S w w')(hS:∀k,k<11->¬S k):Lib.TabIs Tryz.prog w' "strings.asciiSpace" .u8 Lib.asciiSpaceTab:=by
 have:Below 11 w w':=⟨ho.os,ho.tape,ho.output,ho.size,fun k hk=>ho.block k CR (hS k hk)⟩;exact var?_below (g:=3) this CQ CR h
theorem Prs.At.blt(h:p.At w i):p.pb<w.heap.size:=(Array.getElem?_eq_some_iff.1 h.box).1
theorem Prs.At.tok(h:p.At w i):p.l[i]? =some (bZ p.l i):=by
 unfold bZ;rw[List.getD_eq_getElem?_getD,List.getElem?_eq_getElem h.lt];rfl
theorem Prs.At.later(h:p.At w i)(hb:Below w.heap.size w w'):p.At w' i:=
 ⟨(hb.block _ h.blt).trans h.box,fun k t hk=>by
  obtain⟨⟨a1,a2,a3,a4⟩,a5⟩:=h.toks k t hk
  exact⟨⟨aD hb a1,aD hb a2,aD hb a3,aD hb a4⟩,a5⟩,h.ne,h.lt,h.len,h.cap,h.last,h.glob.later hb,spc_off h.spc h.glob.big (Ba (S:=fun _=>False) hb) (fun _ _ h=>h),h.gne⟩
theorem Prs.At.off{S:Nat->Prop}(h:p.At w i)(ho:Off S w w')(h1:¬S p.pb)(h2:¬S p.b)(h3:∀k,k<11->¬S k):p.At w' i:=
 ⟨ho.heap h1 h.box,fun k t hk=>by
  obtain⟨⟨a1,a2,a3,a4⟩,a5⟩:=h.toks k t hk
  exact⟨⟨ho.cell h2 a1,ho.cell h2 a2,ho.cell h2 a3,ho.cell h2 a4⟩,a5⟩,h.ne,h.lt,h.len,h.cap,h.last,h.glob.off ho h3,spc_off h.spc h.glob.big ho h3,h.gne⟩
theorem Prs.At.box0(h:p.At w i):w.cell? ⟨p.pb,0,none⟩=some (.slice (some ⟨p.b,p.o,none⟩) p.l.length p.c):=by simp[World.cell?,h.box]
theorem Prs.At.box1(h:p.At w i):w.cell? ⟨p.pb,1,none⟩=some (.int .i64 (i:Int)):=by simp[World.cell?,h.box]
theorem Prs.At.froz(h:p.At w i):w.frozen? ⟨p.pb,1,none⟩=false:=by simp[World.frozen?,h.box]
theorem Prs.At.step(h:p.At w i)(hl:i+1<p.l.length):p.At (w.setCell ⟨p.pb,1,none⟩ (.int .i64 ((i:Int)+1))) (i+1)/\Off p.S w (w.setCell ⟨p.pb,1,none⟩ (.int .i64 ((i:Int)+1))):=by
 have ho:Off p.S w (w.setCell ⟨p.pb,1,none⟩ (.int .i64 ((i:Int)+1))):=Off.setCell w rfl;refine⟨⟨?_,fun k t hk=>?_,h.ne,hl,h.len,h.cap,h.last,h.glob.off ho (fun k hk=>h.gne k hk),spc_off h.spc h.glob.big ho (fun k hk=>h.gne k hk),h.gne⟩,ho⟩
 ·rw[set_self h.box,Int.natCast_add,Int.natCast_one];rfl
 obtain⟨⟨a1,a2,a3,a4⟩,a5⟩:=h.toks k t hk;exact⟨⟨ho.cell h.ne a1,ho.cell h.ne a2,ho.cell h.ne a3,ho.cell h.ne a4⟩,a5⟩
end
def Ran{α:Type}(S:Nat->Prop)(w:World)(r:PR α)(V:α->Nat->Ending->World->Prop)(e:Ending)(w':World):Prop:=
 (∃x:Int×Int,r=.error x/\e=.panicked [{v:=.iface 207 (.agg #[.int .i64 x.1,.int .i64 x.2]),recovered:=false}]/\Off S w w')\/(∃a j,r=.ok (a,j)/\V a j e w'/\Off S w w')
theorem Ran.bad{α:Type}{S:Nat->Prop}{w w':World}{r:PR α}{V:α->Nat->Ending->World->Prop}{p e:Int}(hr:r=.error (p,e))(ho:Off S w w'):
  Ran S w r V (.panicked [{v:=.iface 207 (.agg #[.int .i64 p,.int .i64 e]),recovered:=false}]) w':=.inl ⟨(p,e),hr,rfl,ho⟩
end Go.Proofs.YtmpopphjaggeoaaGreatDoor
namespace Go.Proofs.YtmpopphjaggeoaaGreatDoor
open Go.RowKit
section
variable {p:Prs} {w:World} {i:Nat} {s:bA}
end
theorem reserved_size:iC.size=124:=CQ
end Go.Proofs.YtmpopphjaggeoaaGreatDoor
namespace Go.Proofs.YtmpopphjaggeoaaGreatDoor
open Go.RowKit
theorem aL(w:World):Below w.heap.size w w.drew:=(Below.refl _ _).drew
theorem BA{p:Prop}(h:p:=by
 constructor
 ·rintro⟨h1,h2⟩ i y hy
  cases i with
  |zero=>simp at hy;subst hy;simpa using h1
  |succ i=>
   obtain⟨cs,a1,a2,a3⟩:=h2 i y ED;exact⟨cs,a1,a2,fun j u hu=>by have:=a3 j u hu;rw[show o+(i+1)*6+j=o+6+i*6+j by omega];exact this⟩
 intro h;refine⟨by simpa using h 0 x rfl,fun i y hy=>?_⟩;obtain⟨cs,a1,a2,a3⟩:=h (i+1) y ED
 exact⟨cs,a1,a2,fun j u hu=>by have:=a3 j u hu;rw[show o+6+i*6+j=o+(i+1)*6+j by omega];exact this⟩):p:=h
theorem BU{p:Prop}(h:p:=by
 obtain⟨cs,a1,a2,a3⟩:=h (i+1) y ED
 exact⟨cs,a1,a2,fun j u hu=>by have:=a3 j u hu;rw[show o+3+i*3+j=o+(i+1)*3+j by omega];exact this⟩):p:=h
theorem BV{p:Prop}(h:p:=by
 obtain⟨cs,a1,a2,a3⟩:=h2 i y ED
 exact⟨cs,a1,a2,fun j u hu=>by have:=a3 j u hu;rw[show o+(i+1)*3+j=o+3+i*3+j by omega];exact this⟩):p:=h
mutual
def hP(N:Nat->Prop)(w:World):Xp->List Value->Prop
 | .mk op n s m names args,cs=>∃vn va,cs=[.int .i64 op,.int .i64 n,.string s,.string m,vn,va]/\s.size<=8000/\m.size<=8000/\aK 1 cD N w vn names/\
   ∃a c,va=.slice a args.length c/\args.length<=c/\c<=9223372036854775807/\(args≠[]->∃b o,a=some ⟨b,o,none⟩/\N b/\encXs N w b o args)
def encXs(N:Nat->Prop)(w:World)(b:Nat):Nat->List Xp->Prop
 |_,[]=>True
 |o,x::r=>(∃cs,hP N w x cs/\cs.length=6/\∀j u,cs[j]? =some u->w.cell? ⟨b,o+j,none⟩=some u)/\encXs N w b (o+6) r
end
mutual
def encT(N:Nat->Prop)(w:World):Ty->List Value->Prop
 | .mk kind fields,cs=>∃vf,cs=[.int .i64 kind,vf]/\∃a c,vf=.slice a fields.length c/\fields.length<=c/\c<=9223372036854775807/\(fields≠[]->∃b o,a=some ⟨b,o,none⟩/\N b/\encFs N w b o fields)
def encFs(N:Nat->Prop)(w:World)(b:Nat):Nat->List (bA×Ty)->Prop
 |_,[]=>True
 |o,(n,t)::r=>(w.cell? ⟨b,o,none⟩=some (.string n)/\n.size<=8000/\∃cs,encT N w t cs/\∀j u,cs[j]? =some u->w.cell? ⟨b,o+1+j,none⟩=some u)/\encFs N w b (o+3) r
end
def encF(N:Nat->Prop)(w:World)(f:Fld)(cs:List Value):Prop:=∃ct,cs=.string f.1::ct/\f.1.size<=8000/\encT N w f.2 ct
section
variable {N N':Nat->Prop} {w w':World}
theorem encXs_iff(b:Nat):∀(l:List Xp)(o:Nat),encXs N w b o l↔∀i x,l[i]? =some x->∃cs,hP N w x cs/\cs.length=6/\∀j u,cs[j]? =some u->w.cell? ⟨b,o+i*6+j,none⟩=some u
 |[],o=>by simp[encXs]
 |x::r,o=>by
  unfold encXs;rw[encXs_iff b r (o+6)];exact BA
theorem encX_iff(op n:Int)(s m:bA)(names:List bA)(args:List Xp)(cs:List Value):hP N w (.mk op n s m names args) cs↔
  ∃vn va,cs=[.int .i64 op,.int .i64 n,.string s,.string m,vn,va]/\s.size<=8000/\m.size<=8000/\aK 1 cD N w vn names/\aK 6 hP N w va args:=by
 unfold hP aK;simp only[encXs_iff]
mutual
theorem encX_moves(hm:aM N w N' w'):∀(x:Xp)(cs:List Value),hP N w x cs->hP N' w' x cs
 | .mk op n s m names args,cs,h=>by
  unfold hP at h ⊢;obtain⟨vn,va,hc,h1,h2,h3,a,c,h4,h5,h6,h7⟩:=h;refine⟨vn,va,hc,h1,h2,h3.moves aT hm CX,a,c,h4,h5,h6,fun kQ=>?_⟩;obtain⟨b,o,ha,hb,hx⟩:=h7 kQ
  have jM:b<w.heap.size:=by
   cases args with
   |nil=>exact absurd rfl kQ
   |cons x r=>
    unfold encXs at hx;obtain⟨⟨cs,-,hl,hj⟩,-⟩:=hx;exact BH
  exact⟨b,o,ha,(hm b hb jM).1,encXs_moves hm b hb jM args o hx⟩
theorem encXs_moves(hm:aM N w N' w')(b:Nat)(hb:N b)(jM:b<w.heap.size):∀(l:List Xp)(o:Nat),encXs N w b o l->encXs N' w' b o l
 |[],_,_=>by unfold encXs;trivial
 |x::r,o,h=>by
  unfold encXs at h ⊢;obtain⟨⟨cs,h1,h2,h3⟩,h4⟩:=h;exact⟨⟨cs,encX_moves hm x cs h1,h2,fun j u hu=>(hm b hb jM).2 _ _ (h3 j u hu)⟩,encXs_moves hm b hb jM r (o+6) h4⟩
end
theorem fB:cF hP:=fun _ _ _ _ x cs hm h=>encX_moves hm x cs h
theorem encT_len:∀{t:Ty}{cs:List Value},encT N w t cs->cs.length=2
 | .mk _ _,_,h=>by unfold encT at h;obtain⟨vf,rfl,-⟩:=h;rfl
theorem encFs_iff(b:Nat):∀(l:List Fld)(o:Nat),encFs N w b o l↔∀i x,l[i]? =some x->∃cs,encF N w x cs/\cs.length=3/\∀j u,cs[j]? =some u->w.cell? ⟨b,o+i*3+j,none⟩=some u
 |[],o=>by simp[encFs]
 |(n,t)::r,o=>by
  unfold encFs;rw[encFs_iff b r (o+3)];constructor
  ·rintro⟨⟨h0,hn,ct,h1,h3⟩,h2⟩ i y hy
   cases i with
   |zero=>
    simp at hy;subst hy;refine⟨.string n::ct,⟨ct,rfl,hn,h1⟩,by simp[encT_len h1],fun j u hu=>?_⟩
    cases j with
    |zero=>simp at hu;subst hu;simpa using h0
    |succ j=>have:=h3 j u (by simpa using hu);rw[show o+0*3+(j+1)=o+1+j by omega];exact this
   |succ i=>
    exact BV
  intro h;refine⟨?_,fun i y hy=>?_⟩
  ·obtain⟨cs,⟨ct,rfl,hn,h1⟩,-,a3⟩:=h 0 (n,t) rfl;refine⟨by simpa using a3 0 (.string n) rfl,hn,ct,h1,fun j u hu=>?_⟩;have:=a3 (j+1) u (by simpa using hu);rw[show o+1+j=o+0*3+(j+1) by omega];exact this
  exact BU
theorem encT_iff(kind:Int)(fields:List Fld)(cs:List Value):encT N w (.mk kind fields) cs↔∃vf,cs=[.int .i64 kind,vf]/\aK 3 encF N w vf fields:=by
 unfold encT aK;simp only[encFs_iff]
end
theorem aK.of_block{α:Type}{k:Nat}{enc:(Nat->Prop)->World->α->List Value->Prop}{N:Nat->Prop}{w:World}{b:Nat}{css:List (List Value)}{l:List α}{T:TypeId}{fr:Nat×Nat}{n:Nat}(hb:w.heap[b]? =some (.cells css.flatten.toArray T fr))(hN:N b)
  (hl:css.length=l.length) (hk:∀c,c∈css->c.length=k) (he:∀(i:Nat)(x:α)(c:List Value),l[i]? =some x->css[i]? =some c->enc N w x c) (hn:l.length=n) (kS:n<=9223372036854775807):
  aK k enc N w (.slice (some ⟨b,0,none⟩) n n) l:=by
 subst hn;refine⟨_,_,rfl,Nat.le_refl _,kS,fun _=>⟨b,0,rfl,hN,fun i x hx=>?_⟩⟩;have hi:=(Yb.1 hx).1;obtain⟨c,hc⟩:∃c,css[i]? =some c:=⟨_,List.getElem?_eq_getElem (by rw[hl];exact hi)⟩;have hck:=hk c (List.mem_of_getElem? hc);refine⟨c,he i x c hx hc,hck,fun j u hu=>?_⟩;have hj:j<k:=by rw[<-hck];exact(Yb.1 hu).1
 have hf:=gT css hk i c j hc hj;rw[hu] at hf;have h2:css.flatten.toArray[i*k+j]? =some u:=by simpa using hf
 rw[Nat.zero_add];simp[World.cell?,hb,h2]
theorem depthXs_mem:∀(l:List Xp)(x:Xp),x∈l->gU x<=depthXs l
 |[],x,h=>D3
 |y::l,x,h=>by
  unfold depthXs;rcases List.mem_cons.1 h with rfl|h
  ·exact Nat.le_max_left _ _
  exact Nat.le_trans (depthXs_mem l x h) (Nat.le_max_right _ _)
end Go.Proofs.YtmpopphjaggeoaaGreatDoor
namespace Go.Proofs.YtmpopphjaggeoaaGreatDoor
open Go.RowKit
def setOf(known:bA->Bool)(x:bA):Option Bool:=if known x then some true else none
abbrev Prs.S2(p:Prs)(km:Nat):Nat->Prop:=fun k=>k=p.pb\/k=km
theorem Off.mono{S S':Nat->Prop}{w w':World}(h:Off S w w')(hS:∀k,S k->S' k):Off S' w w':=⟨h.os,h.tape,h.output,h.size,fun k hk hn=>h.block k hk (fun hs=>hn (hS k hs))⟩
theorem off_map{w w':World}{km:Nat}{S:Nat->Prop}(hS:S km)(hg:w.grownBy w' (some km)):Off S w w':=Off.of_only (only_grown hg) hS
section
variable {p:Prs} {w w':World} {i km n:Nat} {known:bA->Bool}
theorem Prs.At.nemap(h:p.At w i)(hm:fD w km):km≠p.pb/\km≠p.b:=by
 have h0:=h.lt;exact⟨fun e=>hm.ne h.box0 e.symm,fun e=>hm.ne (h.toks i _ h.tok).1.1 e.symm⟩
theorem Prs.At.grown(h:p.At w i)(hm:fD w km)(hk:11<=km)(hg:w.grownBy w' (some km)):p.At w' i:=by
 have hn:=h.nemap hm;exact h.off (S:=fun k=>k=km) (off_map rfl hg) (fun e=>hn.1 e.symm) (fun e=>hn.2 e.symm) (fun k sQ e=>CR)
end
end Go.Proofs.YtmpopphjaggeoaaGreatDoor
namespace Go.Proofs.YtmpopphjaggeoaaGreatDoor
open Go.RowKit
def posOf(w:World)(pb:Nat):Nat:=match w.cell? ⟨pb,1,none⟩ with
 |some (.int _ n)=>n.toNat
 |_=>0
theorem Prs.At.pos{p:Prs}{w:World}{i:Nat}(h:p.At w i):posOf w p.pb=i:=by unfold posOf;rw[h.box1];simp
theorem bx{w:World}{b:Nat}{cs:Array Value}{t:TypeId}(h:w.heap[b]? =some (.cells cs t))(i:Nat){u:Value}(hu:cs[i]? =some u):w.cell? ⟨b,i,none⟩=some u/\w.frozen? ⟨b,i,none⟩=false:=by
 constructor<;>simp[World.cell?,World.frozen?,h,hu]
theorem PR.bnd_ok{α β:Type}{m:PR α}{k:α->Nat->PR β}{a:α}{j:Nat}(h:m=.ok (a,j)):m.bnd k=k a j:=by rw[h];rfl
section
variable {l:List Tok}
end
end Go.Proofs.YtmpopphjaggeoaaGreatDoor
namespace Go.Proofs.YtmpopphjaggeoaaGreatDoor
open Go.RowKit
theorem Off.fresh{S:Nat->Prop}{w w':World}{B:Nat}(h:Off (fun k=>S k\/B<=k) w w')(hB:w.heap.size<=B):Off S w w':=
 ⟨h.os,h.tape,h.output,h.size,fun k hk hn=>h.block k hk (fun hs=>hs.elim hn (fun hb=>CR))⟩
theorem Off.or{S:Nat->Prop}{w w':World}(B:Nat)(h:Off S w w'):Off (fun k=>S k\/B<=k) w w':=h.mono fun _ h=>.inl h
section
variable {p:Prs} {W wr w':World} {b3 B:Nat} {fs:List Fld} {css:List (List Value)} {v:Value}
end
theorem Prs.At.above{p:Prs}{W w w':World}{i j:Nat}(hW:p.At W i)(h:p.At w j)(ho:Off (fun k=>W.heap.size<=k) w w'):p.At w' j:=
 h.off ho (fun e=>by have:=hW.blt;omega) (fun e=>by have:=cV (hW.toks i _ hW.tok).1.1;omega) (fun k hk e=>by have:=hW.glob.big;omega)
theorem cF.off{α:Type}{enc:(Nat->Prop)->World->α->List Value->Prop}(he:cF enc){S N:Nat->Prop}{w w':World}{x:α}{cs:List Value}(h:enc N w x cs)(ho:Off S w w')(hS:∀b,S b->¬N b):enc N w' x cs:=
 he _ _ _ _ _ _ (fun b hb _=>⟨hb,fun _ _ hv=>ho.cell (fun hs=>hS b hs hb) hv⟩) h
theorem cF.wide{α:Type}{enc:(Nat->Prop)->World->α->List Value->Prop}(he:cF enc){N N':Nat->Prop}{w:World}{x:α}{cs:List Value}(h:enc N w x cs)(hN:∀b,N b->b<w.heap.size->N' b):enc N' w x cs:=
 he _ _ _ _ _ _ (fun b hb hl=>⟨hN b hb hl,fun _ _ hv=>hv⟩) h
end Go.Proofs.YtmpopphjaggeoaaGreatDoor
namespace Go.Proofs.YtmpopphjaggeoaaGreatDoor
open Go.RowKit
structure OpL (p:Prs) (W:World) (out:List Xp) (css:List (List Value)) (v:Value) (q:Nat) (wr:World):Prop where
 off:Off p.S W wr
 acc:Gro 6 32 hP W.heap.size out css v wr
 at_:p.At wr q
 len:out.length<=q
section
variable {l:List Tok} {rec:RecP} {F q:Nat} {out:List Xp}
end
theorem OpL.step{p:Prs}{W w5 w7 qD:World}{g cap n1 i0 j q:Nat}{out:List Xp}{css:List (List Value)}{v:Value}{x:Xp}{cs:List Value}{T:TypeId}(hW:p.At W i0)(h5:OpL p W out css v q w5)(ho7:Off p.S w5 w7)(ha7:p.At w7 j)(hq:out.length<q)(hqj:q<=j)
  (hex:hP (cP w5.heap.size) w7 x cs) (hl:cs.length=6)
  (jY:qD.ownsRow W.heap.size 32 6 (.slice (some ⟨g,0,none⟩) n1 cap) n1 (css.flatten++cs)) (hn:n1=out.length+1) (iP:(w7.alloc (.cells cs.toArray T)).grownBy qD v.ownBlock) (mM:v.ownBlock=some g\/g=w7.heap.size+1):
  OpL p W (out++[x]) (css++[cs]) (.slice (some ⟨g,0,none⟩) n1 cap) j qD:=by
 subst hn;have jM:=h5.acc.lt;have kS:=h5.acc.big;have o9:Off p.S w5 (w7.alloc (.cells cs.toArray T)):=ho7.trans (Ba (aB _ _));have hA9:=h5.acc.stays fB (cJ.of_off o9 fun b hb=>.inl E5)
 have hx:hP (offN W.heap.size v) (w7.alloc (.cells cs.toArray T)) x cs:=by
  refine fB.wide (fB _ _ _ _ _ _ (aM.later (aB _ _)) hex) fun b hb _=>?_;have hb:w5.heap.size<=b:=hb;exact⟨CR,fun e=>by have:=jM b e;omega⟩
 have hz9:(w7.alloc (.cells cs.toArray T)).heap.size=w7.heap.size+1:=C0;have o10:Off (fun b=>W.heap.size<=b) (w7.alloc (.cells cs.toArray T)) qD:=⟨iP.os,iP.tape,iP.output,iP.size,fun b hb hn=>iP.block b hb (fun e=>hn (jM b e.symm).1)⟩;refine⟨?_,hA9.added fB hx hl jY iP (by rw[hz9];exact mM),?_,?_⟩
 ·exact Off.fresh (((h5.off.trans o9).or _).trans (o10.mono fun b hb=>.inr hb)) (Nat.le_refl _)
 ·exact hW.above ha7 ((Ba (aB _ _)).trans o10)
 simp;omega
end Go.Proofs.YtmpopphjaggeoaaGreatDoor
namespace Go.Proofs.YtmpopphjaggeoaaGreatDoor
open Go.RowKit
theorem bx6{w:World}{b:Nat}{x0 x1 x2 x3 x4 x5:Value}{t:TypeId}(h:w.heap[b]? =some (.cells #[x0,x1,x2,x3,x4,x5] t)):
  (w.cell? ⟨b,0,none⟩=some x0/\w.cell? ⟨b,1,none⟩=some x1/\w.cell? ⟨b,2,none⟩=some x2/\w.cell? ⟨b,3,none⟩=some x3/\w.cell? ⟨b,4,none⟩=some x4/\w.cell? ⟨b,5,none⟩=some x5)/\
  (w.frozen? ⟨b,0,none⟩=false/\w.frozen? ⟨b,1,none⟩=false/\w.frozen? ⟨b,2,none⟩=false/\w.frozen? ⟨b,3,none⟩=false/\w.frozen? ⟨b,4,none⟩=false/\w.frozen? ⟨b,5,none⟩=false):=
 ⟨⟨(bx h 0 rfl).1,(bx h 1 rfl).1,(bx h 2 rfl).1,(bx h 3 rfl).1,(bx h 4 rfl).1,(bx h 5 rfl).1⟩,(bx h 0 (u:=x0) rfl).2,(bx h 1 (u:=x1) rfl).2,(bx h 2 (u:=x2) rfl).2,(bx h 3 (u:=x3) rfl).2,(bx h 4 (u:=x4) rfl).2,(bx h 5 (u:=x5) rfl).2⟩
abbrev zeroX:Array Value:=#[.int .i64 0,.int .i64 0,.string ⟨#[]⟩,.string ⟨#[]⟩,.slice none 0 0,.slice none 0 0]
def encXo(o:Option Nat)(N:Nat->Prop)(w:World)(x:Xp)(cs:List Value):Prop:=hP (fun b=>N b/\o≠some b) w x cs
theorem encXo_ok(o:Option Nat):cF (encXo o):=fun _ _ _ _ _ _ hm h=>fB _ _ _ _ _ _ (fun b hb hl=>⟨⟨(hm b hb.1 hl).1,hb.2⟩,(hm b hb.1 hl).2⟩) h
theorem Gro.change{α:Type}{k:Nat}{T:TypeId}{enc enc':(Nat->Prop)->World->α->List Value->Prop}{B:Nat}{l:List α}{css:List (List Value)}{v:Value}{w w':World}(h:Gro k T enc B l css v w)
  (hs:w.heap.size<=w'.heap.size) (ho:∀b,v.ownBlock=some b->w'.heap[b]? =w.heap[b]?) (he:∀x c,enc (offN B v) w x c->enc' (offN B v) w' x c):Gro k T enc' B l css v w':=by
 refine⟨?_,h.len,h.ks,fun i x c hx hc=>he x c (h.enc i x c hx hc),Nat.le_trans h.big hs⟩;obtain⟨h1,h2⟩:=h.own;refine⟨h1,?_⟩;rcases h2 with h2|⟨g,cap,cur,hv,hg,qS,r⟩
 ·exact .inl h2
 exact .inr ⟨g,cap,cur,hv,hg,(ho g (by rw[hv];rfl)).trans qS,r⟩
structure RecL (p:Prs) (W:World) (b3 B:Nat) (names:List bA) (cn:List (List Value)) (args:List Xp) (ca:List (List Value)) (vn va:Value) (wr:World):Prop where
 off:Off p.S W wr
 res:wr.heap[W.heap.size]? =some (.cells zeroX 32)
 loc:wr.heap[b3]? =some (.cells #[.int .i64 13,.int .i64 0,.string ⟨#[]⟩,.string ⟨#[]⟩,vn,va] 32)
 nam:Gro 1 9 cD B names cn vn wr
 arg:Gro 6 32 (encXo vn.ownBlock) B args ca va wr
 b3:W.heap.size<b3/\b3<B
 pb:p.pb<W.heap.size
 disj:∀b,vn.ownBlock=some b->va.ownBlock≠some b
section
variable {p:Prs} {W wr w':World} {b3 B:Nat} {names:List bA} {cn ca:List (List Value)} {args:List Xp} {vn va:Value}
theorem RecL.next(h:RecL p W b3 B names cn args ca vn va wr)(ho:Off p.S wr w'):RecL p W b3 B names cn args ca vn va w':=by
 have pO:=h.pb;have hb:=h.b3;have hs:cJ B wr w':=cJ.of_off ho fun b jP=>.inl (by have jP:b=p.pb:=jP;omega);exact⟨h.off.trans ho,ho.heap (fun e=>by have e:W.heap.size=p.pb:=e;omega) h.res,ho.heap (fun e=>by have e:b3=p.pb:=e;omega) h.loc,h.nam.stays aT hs,h.arg.stays (encXo_ok _) hs,hb,pO,h.disj⟩
end
end Go.Proofs.YtmpopphjaggeoaaGreatDoor
namespace Go.Proofs.YtmpopphjaggeoaaGreatDoor
open Go.RowKit
theorem Gro.slice{α:Type}{k:Nat}{T:TypeId}{enc:(Nat->Prop)->World->α->List Value->Prop}{B:Nat}{l:List α}{css:List (List Value)}{v:Value}{w:World}(h:Gro k T enc B l css v w):∃a c,v=.slice a l.length c:=by
 rcases h.val with⟨rfl,rfl⟩|⟨g,cap,rfl,-,-⟩
 ·exact⟨_,_,rfl⟩
 exact⟨_,_,rfl⟩
section
variable {l:List Tok} {rec:RecP} {F q:Nat} {names:List bA} {args:List Xp} {last:bA}
end
end Go.Proofs.YtmpopphjaggeoaaGreatDoor
namespace Go.Proofs.YtmpopphjaggeoaaGreatDoor
open Go.RowKit
theorem B5{p:Prop}(h:p:=by
 obtain⟨v1,v2,e,-,-,h1,h2⟩:=h;obtain⟨a1,c1,rfl,-⟩:=h1.at;obtain⟨a2,c2,rfl,-⟩:=h2.at
 exact⟨op,n,s,m,a1,_,c1,a2,_,c2,e⟩):p:=h
theorem bx3{w:World}{b:Nat}{x0 x1 x2:Value}{t:TypeId}(h:w.heap[b]? =some (.cells #[x0,x1,x2] t)):
  (w.cell? ⟨b,0,none⟩=some x0/\w.cell? ⟨b,1,none⟩=some x1/\w.cell? ⟨b,2,none⟩=some x2)/\(w.frozen? ⟨b,0,none⟩=false/\w.frozen? ⟨b,1,none⟩=false/\w.frozen? ⟨b,2,none⟩=false):=
 ⟨⟨(bx h 0 rfl).1,(bx h 1 rfl).1,(bx h 2 rfl).1⟩,(bx h 0 (u:=x0) rfl).2,(bx h 1 (u:=x1) rfl).2,(bx h 2 (u:=x2) rfl).2⟩
abbrev offC(cb:Nat)(v:Value):Nat->Prop:=fun b=>b≠cb/\v.ownBlock≠some b
abbrev inC(cb:Nat)(v:Value):Nat->Prop:=fun b=>b=cb\/v.ownBlock=some b
structure Ext (cb:Nat) (v:Value) (w:World) (v':Value) (w':World):Prop where
 off:Off (inC cb v) w w'
 own:∀b,v'.ownBlock=some b->v.ownBlock=some b\/w.heap.size<=b
section
variable {cb:Nat} {v v' v'':Value} {w w' w'':World}
theorem Ext.refl(cb:Nat)(v:Value)(w:World):Ext cb v w v w:=⟨Off.refl _ _,fun _ h=>.inl h⟩
theorem Ext.below(cb:Nat)(v:Value)(hb:Below w.heap.size w w'):Ext cb v w v w':=⟨Ba hb,fun _ h=>.inl h⟩
theorem Ext.trans(h:Ext cb v w v' w')(k:Ext cb v' w' v'' w''):Ext cb v w v'' w'':=by
 refine⟨Off.fresh (B:=w.heap.size) ((h.off.or _).trans (k.off.mono fun b hb=>?_)) (Nat.le_refl _),fun b hb=>?_⟩
 ·rcases hb with hb|hb
  ·exact .inl (.inl hb)
  rcases h.own b hb with h1|h1
  ·exact .inl (.inr h1)
  exact .inr h1
 rcases k.own b hb with h1|h1
 ·exact h.own b h1
 exact .inr (Nat.le_trans h.off.size h1)
theorem Ext.moves(h:Ext cb v w v' w'):aM (offC cb v) w (offC cb v') w':=fun b hb jM=>
 ⟨⟨hb.1,fun e=>(h.own b e).elim hb.2 (fun h1=>CR)⟩,fun _ _ hu=>h.off.cell (fun hs=>hs.elim hb.1 hb.2) hu⟩
theorem Ext.size(h:Ext cb v w v' w'):w.heap.size<=w'.heap.size:=h.off.size
end
theorem encX_ext{cb:Nat}{v v':Value}{w w':World}{x:Xp}{cs:List Value}(h:hP (offC cb v) w x cs)(hx:Ext cb v w v' w'):hP (offC cb v') w' x cs:=fB _ _ _ _ _ _ hx.moves h
theorem Ext.blk{cb b:Nat}{v v':Value}{w w':World}{o:Obj}(h:Ext cb v w v' w')(hb:offC cb v b)(ho:w.heap[b]? =some o):w'.heap[b]? =some o/\offC cb v' b:=by
 have jM:=(Array.getElem?_eq_some_iff.1 ho).1;exact⟨h.off.heap (fun e=>e.elim hb.1 hb.2) ho,hb.1,fun e=>(h.own b e).elim hb.2 (fun h1=>CR)⟩
theorem encX_form{N:Nat->Prop}{w:World}{x:Xp}{cs:List Value}(h:hP N w x cs):∃(op n:Int)(s m:bA)(a1:Option Addr)(n1 c1:Nat)(a2:Option Addr)(n2 c2:Nat),cs=[.int .i64 op,.int .i64 n,.string s,.string m,.slice a1 n1 c1,.slice a2 n2 c2]:=by
 cases x with
 |mk op n s m names args=>
  rw[encX_iff] at h;exact B5
end Go.Proofs.YtmpopphjaggeoaaGreatDoor
namespace Go.Proofs.YtmpopphjaggeoaaGreatDoor
open Go.RowKit
structure GrL {α:Type} (k:Nat) (T:TypeId) (enc:(Nat->Prop)->World->α->List Value->Prop) (p:Prs) (W:World) (out:List α) (css:List (List Value)) (v:Value) (q:Nat) (wr:World):Prop where
 off:Off p.S W wr
 acc:Gro k T enc W.heap.size out css v wr
 at_:p.At wr q
section
variable {α:Type} {k:Nat} {T:TypeId} {enc:(Nat->Prop)->World->α->List Value->Prop} {p:Prs} {W w5 w9 qD:World} {out:List α} {css:List (List Value)} {v:Value} {q j i0:Nat} {x:α} {cs:List Value}
theorem GrL.next(he:cF enc)(hW:p.At W i0)(h:GrL k T enc p W out css v q w5)(ho:Off p.S w5 w9)(ha:p.At w9 j):GrL k T enc p W out css v j w9:=
 ⟨h.off.trans ho,h.acc.stays he (cJ.of_off ho fun b hb=>.inl E5),ha⟩
theorem GrL.step{g cap n1:Nat}(he:cF enc)(hW:p.At W i0)(h5:GrL k T enc p W out css v q w5)(o9:Off p.S w5 w9)(ha9:p.At w9 j)(hx:enc (offN W.heap.size v) w9 x cs)(hl:cs.length=k)
  (jY:qD.ownsRow W.heap.size T k (.slice (some ⟨g,0,none⟩) n1 cap) n1 (css.flatten++cs)) (hn:n1=out.length+1) (iP:w9.grownBy qD v.ownBlock) (mM:v.ownBlock=some g\/g=w9.heap.size):
  GrL k T enc p W (out++[x]) (css++[cs]) (.slice (some ⟨g,0,none⟩) n1 cap) j qD/\Off (fun b=>W.heap.size<=b) w9 qD:=by
 subst hn;have jM:=h5.acc.lt;have kS:=h5.acc.big;have hA9:=h5.acc.stays he (cJ.of_off o9 fun b hb=>.inl E5);have o10:Off (fun b=>W.heap.size<=b) w9 qD:=⟨iP.os,iP.tape,iP.output,iP.size,fun b hb hn=>iP.block b hb (fun e=>hn (jM b e.symm).1)⟩;exact⟨⟨Off.fresh (((h5.off.trans o9).or _).trans (o10.mono fun b hb=>.inr hb)) (Nat.le_refl _),hA9.added he hx hl jY iP mM,hW.above ha9 o10⟩,o10⟩
end
end Go.Proofs.YtmpopphjaggeoaaGreatDoor
namespace Go.Proofs.YtmpopphjaggeoaaGreatDoor
open Go.RowKit
theorem Gro.cells{α:Type}{k:Nat}{T:TypeId}{enc:(Nat->Prop)->World->α->List Value->Prop}{B:Nat}{l:List α}{css:List (List Value)}{v:Value}{w:World}(h:Gro k T enc B l css v w){b:Nat}(hb:v.ownBlock=some b):∃cs t fr,w.heap[b]? =some (.cells cs t fr):=by
 rcases h.own.2 with⟨rfl,-⟩|⟨g,cap,cur,rfl,-,qS,-⟩
 ·cases hb
 have e:g=b:=by simpa[Value.ownBlock] using hb
 subst e;exact⟨_,_,_,qS⟩
theorem Gro.nemap{α:Type}{k:Nat}{T:TypeId}{enc:(Nat->Prop)->World->α->List Value->Prop}{B:Nat}{l:List α}{css:List (List Value)}{v:Value}{w:World}(h:Gro k T enc B l css v w){km:Nat}(hm:fD w km):v.ownBlock≠some km:=fun e=>by
 obtain⟨cs,t,fr,h1⟩:=h.cells e;obtain⟨es,c,h2⟩:=hm;rw[h1] at h2;cases h2
section
variable {α:Type} {k:Nat} {T:TypeId} {enc:(Nat->Prop)->World->α->List Value->Prop} {p:Prs} {W w5 w9 qD:World} {out:List α} {css:List (List Value)} {v:Value} {q j i0 km:Nat}
theorem GrL.fresh(he:cF enc)(hW:p.At W i0)(h:GrL k T enc p W out css v q w5)(hm:fD w5 km)(hk:W.heap.size<=km)(ho:Off (p.S2 km) w5 w9)(ha:p.At w9 j):GrL k T enc p W out css v j w9:=
 ⟨Off.fresh ((h.off.or _).trans (ho.mono fun b hb=>hb.elim (fun e=>.inl e) (fun e=>.inr CR))) (Nat.le_refl _),
  h.acc.stays he (cJ.of_off ho fun b hb=>hb.elim (fun e=>.inl (by have:=hW.blt;omega)) (fun e=>.inr (by rw[e];exact hm))),ha⟩
end
section
variable {l:List Tok} {F q most:Nat} {fs:List Fld}
end
end Go.Proofs.YtmpopphjaggeoaaGreatDoor
namespace Go.Proofs.YtmpopphjaggeoaaGreatDoor
open Go.RowKit
def encFn(N:Nat->Prop)(w:World)(f:Fnc)(cs:List Value):Prop:=∃vp k vf op n s m vn va,cs=[.string f.name,.bool f.pub,vp,.int .i64 k,vf,.int .i64 f.effects,.int .i64 op,.int .i64 n,.string s,.string m,vn,va]/\f.name.size<=8000/\
 aK 3 encF N w vp f.params/\encT N w f.result [.int .i64 k,vf]/\hP N w f.body [.int .i64 op,.int .i64 n,.string s,.string m,vn,va]
def Stbl(S:Nat->Prop)(E:World->Prop):Prop:=∀w w',Off S w w'->E w->E w'
theorem Stbl.and{S:Nat->Prop}{E F:World->Prop}(h:Stbl S E)(k:Stbl S F):Stbl S fun w=>E w/\F w:=fun _ _ ho hE=>⟨h _ _ ho hE.1,k _ _ ho hE.2⟩
theorem Stbl.true{S:Nat->Prop}:Stbl S fun _=>True:=fun _ _ _ _=>trivial
theorem Stbl.row{α:Type}{k:Nat}{enc:(Nat->Prop)->World->α->List Value->Prop}(he:cF enc)(hk:0<k){S N:Nat->Prop}(hS:∀b,S b->¬N b){v:Value}{l:List α}:Stbl S fun w=>aK k enc N w v l:=
 fun _ _ ho h=>h.moves he (fun b hb _=>⟨hb,fun _ _ hv=>ho.cell (fun hs=>hS b hs hb) hv⟩) hk
theorem Stbl.enc{α:Type}{enc:(Nat->Prop)->World->α->List Value->Prop}(he:cF enc){S N:Nat->Prop}(hS:∀b,S b->¬N b){x:α}{cs:List Value}:Stbl S fun w=>enc N w x cs:=fun _ _ ho h=>he.off h ho hS
structure Mk (T:TypeId) (zero:Array Value) (p:Prs) (O S:Nat->Prop) (W:World) (b5:Nat) (cells:Array Value) (E:World->Prop) (q:Nat) (wr:World):Prop where
 off:Off O W wr
 res:wr.heap[W.heap.size]? =some (.cells zero T)
 loc:wr.heap[b5]? =some (.cells cells T)
 at_:p.At wr q
 enc:E wr
 st:Stbl (fun b=>S b\/b=b5) E
 hb5:W.heap.size<b5
 sO:∀b,S b->O b\/W.heap.size<b
 s5:¬S b5
 sR:¬S W.heap.size
 sP:S p.pb
section
variable {T:TypeId} {zero cells cells':Array Value} {p:Prs} {O S S':Nat->Prop} {W wr w':World} {b5 q j i0:Nat} {E F:World->Prop}
theorem Mk.next(h:Mk T zero p O S W b5 cells E q wr)(ho:Off S wr w')(ha:p.At w' j):Mk T zero p O S W b5 cells E j w':=
 ⟨Off.fresh ((h.off.or _).trans (ho.mono fun b hb=>(h.sO b hb).elim .inl fun e=>.inr (Nat.le_of_lt e))) (Nat.le_refl _),ho.heap h.sR h.res,ho.heap h.s5 h.loc,ha,h.st _ _ (ho.mono fun b hb=>.inl hb) h.enc,h.st,h.hb5,h.sO,h.s5,h.sR,h.sP⟩
theorem Mk.below(h:Mk T zero p O S W b5 cells E q wr)(hb:Below wr.heap.size wr w'):Mk T zero p O S W b5 cells E q w':=h.next (Ba hb) (h.at_.later hb)
theorem Mk.put(h:Mk T zero p O S W b5 cells E q wr)(hW:p.At W i0)(ho:Off (fun b=>b=b5) wr w')(hl:w'.heap[b5]? =some (.cells cells' T)):Mk T zero p O S W b5 cells' E q w':=by
 have h1:=h.hb5;exact⟨Off.fresh ((h.off.or _).trans (ho.mono fun b hb=>.inr (by have hb:b=b5:=hb;omega))) (Nat.le_refl _),ho.heap CR h.res,hl,hW.above h.at_ (ho.mono fun b hb=>by have hb:b=b5:=hb;omega),h.st _ _ (ho.mono fun b hb=>.inr hb) h.enc,h.st,h1,h.sO,h.s5,h.sR,h.sP⟩
theorem Mk.add(h:Mk T zero p O S W b5 cells E q wr)(hF:F wr)(hs:Stbl (fun b=>S b\/b=b5) F):Mk T zero p O S W b5 cells (fun w=>E w/\F w) q wr:=
 ⟨h.off,h.res,h.loc,h.at_,⟨h.enc,hF⟩,h.st.and hs,h.hb5,h.sO,h.s5,h.sR,h.sP⟩
theorem Mk.lt(h:Mk T zero p O S W b5 cells E q wr):b5<wr.heap.size:=(Array.getElem?_eq_some_iff.1 h.loc).1
end
theorem Off.one{w w':World}{b o:Nat}{v:Value}(h:Off (fun k=>k=b) w w'):Off (fun k=>k=b) w (w'.setCell ⟨b,o,none⟩ v):=h.trans (Off.setCell (S:=fun k=>k=b) _ rfl)
theorem Stbl.cells{S:Nat->Prop}{g n:Nat}{f:Nat->Value}(hS:¬S g):Stbl S fun W=>∀j,j<n->W.cell? ⟨g,0+j,none⟩=some (f j):=fun _ _ ho hw j hj=>ho.cell hS (hw j hj)
theorem Stbl.map{S:Nat->Prop}{km n:Nat}{m:bA->Option Bool}(hS:¬S km):Stbl S fun w=>cW kStr vBool w km n m:=fun _ _ ho h=>h.of_block (ho.block km h.lt hS)
end Go.Proofs.YtmpopphjaggeoaaGreatDoor
namespace Go.Proofs.YtmpopphjaggeoaaGreatDoor
open Go.RowKit
section
variable {P:Program}
end
abbrev bv(l:List UInt8):List Value:=l.map fun b=>Value.int .u8 b.toNat
structure Wr (B wb:Nat) (bl:List UInt8) (ins:Bool) (v:Value) (w:World):Prop where
 box:∃p,(p=Value.pointer none\/p=Value.pointer (some ⟨wb,0,none⟩))/\w.heap[wb]? =some (.cells #[p,v,.bool ins] 138)
 own:w.ownsRow B 5 1 v bl.length (bv bl)
 hcb:wb<B
 h11:11<=wb
 big:B<=w.heap.size
 glob:bC w
section
variable {B wb:Nat} {bl:List UInt8} {ins:Bool} {v v':Value} {w w':World}
theorem Wr.lt(h:Wr B wb bl ins v w):wb<w.heap.size:=by have:=h.hcb;have:=h.big;omega
theorem Wr.owns(h:Wr B wb bl ins v w):∀b,v.ownBlock=some b->B<=b/\b<w.heap.size:=h.own.lt
theorem Wr.n11(h:Wr B wb bl ins v w):∀k,k<11->¬inC wb v k:=fun k hk hs=>by
 have h1:=h.h11;have h2:=h.hcb;rcases hs with hs|hs
 ·omega
 have:=(h.owns k hs).1;omega
theorem owns_later{T:TypeId}{n:Nat}{xs:List Value}(h:w.ownsRow B T 1 v n xs)(hb:Below w.heap.size w w'):w'.ownsRow B T 1 v n xs:=by
 obtain⟨h1,h2⟩:=h;refine⟨h1,h2.imp id ?_⟩;rintro⟨g,cap,cur,hv,hg,qS,r⟩;exact⟨g,cap,cur,hv,hg,aC hb qS,r⟩
theorem Wr.later(h:Wr B wb bl ins v w)(hb:Below w.heap.size w w'):Wr B wb bl ins v w':=by
 obtain⟨p,hp,uD⟩:=h.box;exact⟨⟨p,hp,aC hb uD⟩,owns_later h.own hb,h.hcb,h.h11,Nat.le_trans h.big hb.size,h.glob.later hb⟩
theorem Wr.val(h:Wr B wb bl ins v w):∃a c,v=.slice a bl.length c:=by
 rcases h.own.2 with⟨hv,h0⟩|⟨g,cap,cur,hv,-⟩
 ·exact⟨none,0,by rw[h0];exact hv⟩
 exact⟨_,_,hv⟩
theorem owns_set{T:TypeId}{n j:Nat}{xs:List Value}{u:Value}(h:w.ownsRow B T 1 v n xs)(hB:wb<B):(w.setCell ⟨wb,j,none⟩ u).ownsRow B T 1 v n xs:=by
 obtain⟨h1,h2⟩:=h;refine⟨h1,h2.imp id ?_⟩;rintro⟨g,cap,cur,hv,hg,qS,r⟩;exact⟨g,cap,cur,hv,hg,(Off.setCell (S:=fun b=>b=wb) w rfl).heap CR qS,r⟩
theorem Wr.used(h:Wr B wb bl ins v w):Wr B wb bl ins v (w.setCell ⟨wb,0,none⟩ (.pointer (some ⟨wb,0,none⟩)))/\Ext wb v w v (w.setCell ⟨wb,0,none⟩ (.pointer (some ⟨wb,0,none⟩))):=by
 obtain⟨p,hp,uD⟩:=h.box;have ho:Off (inC wb v) w (w.setCell ⟨wb,0,none⟩ (.pointer (some ⟨wb,0,none⟩))):=Off.setCell w (.inl rfl);exact⟨⟨⟨_,.inr rfl,set_self uD _⟩,owns_set h.own h.hcb,h.hcb,h.h11,by simpa using h.big,h.glob.off ho h.n11⟩,ho,fun _ h=>.inl h⟩
end
end Go.Proofs.YtmpopphjaggeoaaGreatDoor
namespace Go.Proofs.YtmpopphjaggeoaaGreatDoor
open Go.RowKit
abbrev WSt:=List UInt8×Bool
def WSt.put(st:WSt)(ts:List bA):WSt:=(st.1++emitL st.2 ts,insL st.2 ts)
def Fits(st:WSt)(ts:List bA):Prop:=st.1.length+tsz ts<=140737488355328
theorem Fits.app{st:WSt}{a b:List bA}(h:Fits st (a++b)):Fits st a/\Fits (st.put a) b:=by
 unfold Fits at *;rw[tsz_app] at h;have:=emit_size st.2 a;refine⟨CR,?_⟩;show(st.1++emitL st.2 a).length+_<=_;rw[List.length_append];omega
theorem Fits.cons{st:WSt}{t:bA}{b:List bA}(h:Fits st (t::b)):Fits st [t]/\Fits (st.put [t]) b:=Fits.app (a:=[t]) h
theorem tsz_mem{t:bA}:∀{l:List bA},t∈l->t.size+1<=tsz l
 |[],h=>D3
 |x::r,h=>by
  rw[tsz_cons];rcases List.mem_cons.1 h with rfl|h
  ·omega
  have:=tsz_mem h;omega
theorem Fits.each{st:WSt}{ts:List bA}(h:Fits st ts):∀t∈ts,t.size<=140737488355328:=fun t ht=>by
 have:=tsz_mem ht;unfold Fits at h;omega
end Go.Proofs.YtmpopphjaggeoaaGreatDoor
namespace Go.Proofs.YtmpopphjaggeoaaGreatDoor
def Nz{α:Type}(r:PR α):Prop:=∀x,r=.error x->x.2≠0
section
variable {l:List Tok} {α β:Type}
theorem Nz.ok{a:α}{j:Nat}:Nz (.ok (a,j):PR α):=fun x h=>D3
theorem Nz.bnd{m:PR α}{k:α->Nat->PR β}(h:Nz m)(hk:∀a j,Nz (k a j)):Nz (m.bnd k):=fun x hx=>by
 cases hm:m with
 |error y=>rw[hm] at hx;have hx:(.error y:PR β)=.error x:=hx;injection hx with e;rw[<-e];exact h y hm
 |ok r=>obtain⟨a,j⟩:=r;rw[hm] at hx;exact hk a j x hx
section
variable {rec:RecP} (hr:∀f i,Nz (rec f i))
include hr
end
end
end Go.Proofs.YtmpopphjaggeoaaGreatDoor
