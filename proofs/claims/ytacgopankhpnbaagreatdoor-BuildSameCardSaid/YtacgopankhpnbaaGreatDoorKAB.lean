/- Texts of this seat, joined. -/
import Derived.Test.YtacgopankhpnbaaGreatDoorLexC
import Derived.Test.YtacgopankhpnbaaGreatDoorKT
namespace Go.Proofs.YtacgopankhpnbaaGreatDoor
set_option maxHeartbeats 1000000
set_option maxRecDepth 100000
open Go.RowKit
abbrev tokCells(t:Tok):List Value:=[.int .i64 t.kind,.string t.text,.int .i64 t.n,.int .i64 t.pos]
def encTok(_:Nat->Prop)(_:World)(x:Tok)(cs:List Value):Prop:=cs=tokCells x/\x.text.size<=8000
theorem mQ:eU encTok:=fun _ _ _ _ _ _ _ h=>h
theorem tokInfo:(Tryz.prog.info? 201).map (fun i=>(i.zero,i.size,i.bytes))=some (some (.agg #[.int .i64 0,.string ByteArray.empty,.int .i64 0,.int .i64 0]),4,40):=vU
structure LexSt (s:ByteArray) (W:World) (i:Nat) (out:List Tok) (css:List (List Value)) (v:Value) (wr:World):Prop where
 acc:Gro 4 201 encTok W.heap.size out css v wr
 below:Below W.heap.size W wr
 len:out.length<=i
 le:i<=s.size
 rest:∃f,iY s (s.size+1) 0 []=iY s (f+1) i out/\s.size<=f+i
 ok:∀t,t∈out->t.kind≠3/\t.text.size<=s.size
def lexV(B:Nat)(s:ByteArray)(r:Except (Int×Int) (List Tok))(e:Ending)(w':World):Prop:=match r with
 | .error x=>e=.returned (.tuple #[.slice none 0 0,.int .i64 x.1,.int .i64 x.2])
 | .ok l=>∃v,e=.returned (.tuple #[v,.int .i64 0,.int .i64 0])/\aK 4 encTok (bP B) w' v l/\TokOk s l
theorem nextV_err(e:Int):oN (.error e)=.tuple #[tokV 0 ⟨#[]⟩ 0 0,.int .i64 e]:=rfl
theorem nextV_ok(k n:Int)(t:ByteArray):oN (.ok (k,t,n))=.tuple #[tokV k t n 0,.int .i64 0]:=rfl
theorem grown_belowB{u w w':World}{row:Option Nat}(h:Below u.heap.size u w)(hg:w.grownBy w' row)(hr:∀b,row=some b->u.heap.size<=b):Below u.heap.size u w':=
 ⟨hg.os.trans h.os,hg.tape.trans h.tape,hg.output.trans h.output,Nat.le_trans h.size hg.size,fun k hk=>(hg.block k (by have:=h.size;omega) (fun e=>by have:=hr k e.symm;omega)).trans (h.block k hk)⟩
theorem lex_any(s:ByteArray)(w:World)(hs:s.size<=140737488355328)(hg:SignsAt w):
  Calls Tryz.prog 107 #[.string s] w fun e w'=>lexV w.heap.size s (lexL s) e w'/\Below w.heap.size w w':=by
 obtain⟨i0,hi0,hz0,hz1,hz2⟩:=info_parts tokInfo;have HG:=zh hg;clear hg;by_cases hbig:(8000:Int)<(s.size:Int)
 ·have HL:Hid (lexL s=.error (0,6)):=zh (by unfold lexL;rw[if_pos vT]);go_enter Tryz.func107,Tryz.ntmps107;go_wp2_with fail;refine bodyPost_ret (v:=.tuple #[.slice none 0 0,.int .i64 0,.int .i64 6]) AJ rfl ⟨?_,Below.refl _ _⟩;rw[HL.out];rfl
 ·have hsz:s.size<=8000:=vT;have HL:Hid (lexL s=iY s (s.size+1) 0 []):=zh (by unfold lexL;rw[if_neg vT]);go_enter Tryz.func107,Tryz.ntmps107;go_wp2_with fail;go_loopw [5,6] (fun v iv wr=>∃(i:Nat)(out:List Tok)(css:List (List Value)),iv=.int .i64 i/\Hid (LexSt s w i out css v wr)) (fun _ iv _=>s.size-(intOf iv).toNat)
  case atStart=>exact⟨0,[],[],rfl,zh ⟨Gro.first _ _ _ _,Below.refl _ _,Nat.le_refl _,Nat.zero_le _,⟨s.size,rfl,vT⟩,fun t h=>yG⟩⟩
  case round=>
   obtain⟨i,out,css,rfl,HS⟩:=hrel;(rename World=>wr);have hi:i<=s.size:=HS.out.le;obtain⟨f,hf,hfi⟩:=HS.out.rest;have HF:=zh hf;clear hf;have HR:Hid (iN s i=s.extract i s.size):=zh rfl;have hn:=spanN_le jL (iN s i).data.toList;rw[<-iM,lA] at hn;have HSp:=zh (span_any 128 jL (iN s i) wr (by rw[lA];omega) enters_blank blank_any);rw[HR.out] at HSp;have HE:=zh (fun h=>lexFrom_end (s:=s) (f:=f) (i:=i) (out:=out) h);have HBad:=zh (fun e h hn=>lexFrom_bad (s:=s) (f:=f) (i:=i) (out:=out) (e:=e) h hn);have HOn:=zh (fun k n t h hn=>lexFrom_on (s:=s) (f:=f) (i:=i) (out:=out) (k:=k) (n:=n) (t:=t) h hn);rw[HR.out] at hn HE HBad HOn;generalize dU jL (s.extract i s.size).data.toList=n at hn HSp HE HBad HOn;have hBw:=HS.out.below.size;by_cases hend:i+n=s.size
   ·have hend2:(i:Int)+(n:Int)=(s.size:Int):=vT;have HEnd:=zh hend;(have hcap:out.length<=8000:=by have:=HS.out.len;omega);go_wp2_with(first|(go_at_call 127;refine HSp.out.mono ?_;rintro e w' ⟨rfl,rfl⟩)|(at_builtin;refine wpList_append_lies _ rfl _ _ 157 rfl w.heap.size 201 i0 (.agg #[.int .i64 0,.string ByteArray.empty,.int .i64 0,.int .i64 0]) 4 40 Tryz.underlying157 hi0 hz0 hz1 hz2 rfl vT _ out.length css.flatten xK (HS.out.acc.own.alloc _) ⟨wr.heap.size,0,none⟩ 1 1 [.int .i64 3,.string ⟨#[]⟩,.int .i64 0,.int .i64 (s.size:Int)] xK rfl (World.news_of_block (cs:=#[.int .i64 3,.string ⟨#[]⟩,.int .i64 0,.int .i64 (s.size:Int)]) (t:=201) (fr:=(0,0)) (heap_alloc_new wr _)) wN vT wK vT wQ (wr.heap.size+1) vZ ?_));intro g cap w1 hown hgrow hat _;have HA:=HS.out.acc.later mQ (aA wr (.cells #[.int .i64 3,.string ⟨#[]⟩,.int .i64 0,.int .i64 (s.size:Int)] 201));have HNew:=zh ((HA.added mQ (x:=⟨3,⟨#[]⟩,0,s.size⟩) ⟨rfl,Nat.zero_le _⟩ rfl hown hgrow zL).row mQ);have HTk:=zh (TokOk.of (s:=s) (out:=out) (p:=s.size) (by have:=HS.out.len;omega) HS.out.ok);have HB1:=zh (grown_belowB (aB HS.out.below (aA wr (.cells #[.int .i64 3,.string ⟨#[]⟩,.int .i64 0,.int .i64 (s.size:Int)] 201))) hgrow (fun b hb=>(HA.lt b hb).1));clear hown hgrow hat HA;go_wp2_with fail;refine bodyPost_ret (v:=.tuple #[.slice (some ⟨g,0,none⟩) (out.length+1) cap,.int .i64 0,.int .i64 0]) AJ rfl ⟨?_,HB1.out⟩;rw[HL.out,HF.out,HE.out HEnd.out];exact⟨_,rfl,HNew.out,HTk.out⟩
   ·have hend2:¬(i:Int)+(n:Int)=(s.size:Int):=vT;have HEnd:=zh hend;have hlt:i+n<s.size:=vT;have HC:Hid ((i:Int)+(n:Int)=((i+n:Nat):Int)):=zh vT;(have hpos:0<(iN s (i+n)).size:=by rw[lA];omega);have HN:=zh (lexnext_any (iN s (i+n)) wr (by rw[lA];omega) hpos (HG.out.later HS.out.below));have HTok:=zh (fun k t n'=>nextTok_ok (s:=iN s (i+n)) hpos (k:=k) (t:=t) (n:=n'));clear hpos
    cases hq:gT (iN s (i+n)) with
    |error e0=>
     rw[hq,nextV_err] at HN;rw[show iN s (i+n)=s.extract (i+n) s.size from rfl] at HN;have HQ:=zh (HBad.out e0 hend hq);have he0:=nextTok_err hq;clear hq HBad HOn HE HTok;go_wp2_with(first|(go_at_call 127;refine HSp.out.mono ?_;rintro e w' ⟨rfl,rfl⟩)|(go_at_call 129;refine HN.out.mono ?_;rintro e w' ⟨rfl,hb⟩));have HB1:=zh (aB HS.out.below (aB hb (aA w' (.cells #[.int .i64 0,.string ⟨#[]⟩,.int .i64 0,.int .i64 0] 201))));refine bodyPost_ret (v:=.tuple #[.slice none 0 0,.int .i64 ((i:Int)+(n:Int)),.int .i64 e0]) AJ rfl ⟨?_,HB1.out⟩;rw[HL.out,HF.out,HQ.out,HC.out];rfl
    |ok r=>
     obtain⟨k,t,m⟩:=r;rw[hq,nextV_ok] at HN;rw[show iN s (i+n)=s.extract (i+n) s.size from rfl] at HN;have HQ:=zh (HOn.out k m t hend hq);have HT:=zh (HTok.out k t m hq);clear hq HBad HOn HE HTok;(have ht1:(i:Int)+(n:Int)+(t.size:Int)<=(s.size:Int):=by have:=HT.out.2.2;rw[lA] at this;omega);(have hcap:out.length<=8000:=by have:=HS.out.len;omega);go_wp2_with(first|(go_at_call 127;refine HSp.out.mono ?_;rintro e w' ⟨rfl,rfl⟩)|(go_at_call 129;refine HN.out.mono ?_;rintro e w1 ⟨rfl,hb⟩;have HA:=zh (HS.out.acc.later mQ hb);have hw1:=hb.size)|(at_builtin;refine wpList_append_lies _ rfl _ _ 157 rfl w.heap.size 201 i0 (.agg #[.int .i64 0,.string ByteArray.empty,.int .i64 0,.int .i64 0]) 4 40 Tryz.underlying157 hi0 hz0 hz1 hz2 rfl vT _ out.length css.flatten xK ((HA.out.own.alloc _).alloc _) ⟨w1.heap.size+1,0,none⟩ 1 1 [.int .i64 k,.string t,.int .i64 m,.int .i64 ((i:Int)+(n:Int))] xK rfl (World.news_of_block (cs:=#[.int .i64 k,.string t,.int .i64 m,.int .i64 ((i:Int)+(n:Int))]) (t:=201) (fr:=(0,0)) (by simpa using heap_alloc_new (w1.alloc (.cells #[.int .i64 k,.string t,.int .i64 m,.int .i64 ((i:Int)+(n:Int))] 201)) _)) wN vT wK vT wQ (w1.heap.size+1+1) vZ ?_));intro g cap w2 hown hgrow hat _;have HA2:=((HA.out.later mQ (aA w1 (.cells #[.int .i64 k,.string t,.int .i64 m,.int .i64 ((i:Int)+(n:Int))] 201))).later mQ (aA _ (.cells #[.int .i64 k,.string t,.int .i64 m,.int .i64 ((i:Int)+(n:Int))] 201)));(have htx:t.size<=8000:=by have:=HT.out.2.2;rw[lA] at this;omega);have HNew:=zh (HA2.added mQ (x:=⟨k,t,m,((i+n:Nat):Int)⟩) ⟨by rw[HC.out],htx⟩ rfl hown hgrow zL);have HB1:=zh (grown_belowB (aB HS.out.below (aB hb (aB (aA w1 (.cells #[.int .i64 k,.string t,.int .i64 m,.int .i64 ((i:Int)+(n:Int))] 201)) (aA _ (.cells #[.int .i64 k,.string t,.int .i64 m,.int .i64 ((i:Int)+(n:Int))] 201))))) hgrow (fun b hb=>(HA2.lt b hb).1))
     have hcT:w2.cell? ⟨w1.heap.size,1,none⟩=some (.string t):=by
      refine hgrow.cell (aC (aA _ _) (v:=.string t) ?_) (fun e=>by have:=(HA.out.lt _ e.symm).2;simp at this);exact(cell_of_row _ w1.heap.size 1 _ _ _ (heap_alloc_new w1 _)).trans rfl
     clear hown hgrow hat HA2 htx HA HN HSp;go_wp2_with fail;go_roundw
     case rel=>
      refine⟨i+n+t.size,out++[⟨k,t,m,((i+n:Nat):Int)⟩],_,wH,zh ⟨HNew.out,HB1.out,?_,vT,?_,?_⟩⟩
      ·have h1:=HS.out.len;have h2:=HT.out.2.1;rw[List.length_append,List.length_singleton];omega
      ·obtain⟨f',hf'⟩:∃f',f=f'+1:=⟨f-1,vT⟩;subst hf';refine⟨f',by rw[HF.out,HQ.out],?_⟩;have h2:=HT.out.2.1;omega
      ·intro x hx;rcases List.mem_append.1 hx with h|h
       ·exact HS.out.ok x h
       ·rw[List.mem_singleton.1 h];refine⟨HT.out.1,?_⟩;have:=HT.out.2.2;rw[lA] at this;show t.size<=s.size;omega
     case measure=>have h2:=HT.out.2.1;simp[intOf];omega
set_option maxHeartbeats 400000
abbrev tokVal(t:Tok):Value:=tokV t.kind t.text t.n t.pos
structure Prs where
 l:List Tok
 b:Nat
 o:Nat
 c:Nat
 pb:Nat
structure Prs.At (p:Prs) (w:World) (i:Nat):Prop where
 box:w.heap[p.pb]? =some (.cells #[.slice (some ⟨p.b,p.o,none⟩) p.l.length p.c,.int .i64 (i:Int)] 162)
 toks:∀k t,p.l[k]? =some t->(w.cell? ⟨p.b,p.o+k*4,none⟩=some (.int .i64 t.kind)/\w.cell? ⟨p.b,p.o+k*4+1,none⟩=some (.string t.text)/\w.cell? ⟨p.b,p.o+k*4+2,none⟩=some (.int .i64 t.n)/\w.cell? ⟨p.b,p.o+k*4+3,none⟩=some (.int .i64 t.pos))/\t.text.size<=8000
 ne:p.b≠p.pb
 lt:i<p.l.length
 len:p.l.length<=8001
 cap:p.l.length<=p.c/\p.c<=9223372036854775807
 last:∀k t,p.l[k]? =some t->t.kind≠3->k+1<p.l.length
 glob:bV w
 spc:Lib.TabIs Tryz.prog w "strings.asciiSpace" .u8 Lib.asciiSpaceTab
 gne:∀k,k<11->k≠p.pb
abbrev Prs.S(p:Prs):Nat->Prop:=fun k=>k=p.pb
section
variable {p:Prs} {w w':World} {i:Nat}
theorem bV.off{S:Nat->Prop}(h:bV w)(ho:Off S w w')(hS:∀k,k<11->¬S k):bV w':=by
 have hb:=h.big;refine⟨Nat.le_trans h.big ho.size,?_,?_,?_,fun i x hx=>ho.cell (hS _ vT) (h.signs i x hx),fun i x hx=>ho.cell (hS _ vT) (h.words i x hx)⟩
 ·obtain⟨m,hm⟩:=h.maxLen;exact⟨m,ho.cell (hS _ vT) hm⟩
 ·have:Below 11 w w':=⟨ho.os,ho.tape,ho.output,ho.size,fun k hk=>ho.block k vT (hS k hk)⟩;exact var?_below (g:=4) this vU vT h.pow10
 ·have:Below 11 w w':=⟨ho.os,ho.tape,ho.output,ho.size,fun k hk=>ho.block k vT (hS k hk)⟩;exact var?_below (g:=3) this vU vT h.spc
theorem spc_off{S:Nat->Prop}(h:Lib.TabIs Tryz.prog w "strings.asciiSpace" .u8 Lib.asciiSpaceTab)(hb:11<=w.heap.size)(ho:Off S w w')(hS:∀k,k<11->¬S k):Lib.TabIs Tryz.prog w' "strings.asciiSpace" .u8 Lib.asciiSpaceTab:=by
 have:Below 11 w w':=⟨ho.os,ho.tape,ho.output,ho.size,fun k hk=>ho.block k vT (hS k hk)⟩;exact var?_below (g:=3) this vU vT h
theorem Prs.At.blt(h:p.At w i):p.pb<w.heap.size:=(Array.getElem?_eq_some_iff.1 h.box).1
theorem Prs.At.tok(h:p.At w i):p.l[i]? =some (aH p.l i):=by
 unfold aH;rw[List.getD_eq_getElem?_getD,List.getElem?_eq_getElem h.lt];rfl
theorem Prs.At.later(h:p.At w i)(hb:Below w.heap.size w w'):p.At w' i:=
 ⟨(hb.block _ h.blt).trans h.box,fun k t hk=>by
  obtain⟨⟨a1,a2,a3,a4⟩,a5⟩:=h.toks k t hk
  exact⟨⟨aC hb a1,aC hb a2,aC hb a3,aC hb a4⟩,a5⟩,h.ne,h.lt,h.len,h.cap,h.last,h.glob.later hb,spc_off h.spc h.glob.big (Off.of_below (S:=fun _=>False) hb) (fun _ _ h=>h),h.gne⟩
theorem Prs.At.off{S:Nat->Prop}(h:p.At w i)(ho:Off S w w')(h1:¬S p.pb)(h2:¬S p.b)(h3:∀k,k<11->¬S k):p.At w' i:=
 ⟨ho.heap h1 h.box,fun k t hk=>by
  obtain⟨⟨a1,a2,a3,a4⟩,a5⟩:=h.toks k t hk
  exact⟨⟨ho.cell h2 a1,ho.cell h2 a2,ho.cell h2 a3,ho.cell h2 a4⟩,a5⟩,h.ne,h.lt,h.len,h.cap,h.last,h.glob.off ho h3,spc_off h.spc h.glob.big ho h3,h.gne⟩
theorem Prs.At.box0(h:p.At w i):w.cell? ⟨p.pb,0,none⟩=some (.slice (some ⟨p.b,p.o,none⟩) p.l.length p.c):=by simp[World.cell?,h.box]
theorem Prs.At.box1(h:p.At w i):w.cell? ⟨p.pb,1,none⟩=some (.int .i64 (i:Int)):=by simp[World.cell?,h.box]
theorem Prs.At.froz(h:p.At w i):w.frozen? ⟨p.pb,1,none⟩=false:=by simp[World.frozen?,h.box]
theorem Prs.At.step(h:p.At w i)(hl:i+1<p.l.length):p.At (w.setCell ⟨p.pb,1,none⟩ (.int .i64 ((i:Int)+1))) (i+1)/\Off p.S w (w.setCell ⟨p.pb,1,none⟩ (.int .i64 ((i:Int)+1))):=by
 have ho:Off p.S w (w.setCell ⟨p.pb,1,none⟩ (.int .i64 ((i:Int)+1))):=Off.setCell w rfl;refine⟨⟨?_,fun k t hk=>?_,h.ne,hl,h.len,h.cap,h.last,h.glob.off ho (fun k hk=>h.gne k hk),spc_off h.spc h.glob.big ho (fun k hk=>h.gne k hk),h.gne⟩,ho⟩
 ·rw[aU h.box,Int.natCast_add,Int.natCast_one];rfl
 ·obtain⟨⟨a1,a2,a3,a4⟩,a5⟩:=h.toks k t hk;exact⟨⟨ho.cell h.ne a1,ho.cell h.ne a2,ho.cell h.ne a3,ho.cell h.ne a4⟩,a5⟩
end
abbrev faultE(x:Int×Int):Ending:=.panicked [{v:=.iface 205 (.agg #[.int .i64 x.1,.int .i64 x.2]),recovered:=false}]
def Ran{α:Type}(S:Nat->Prop)(w:World)(r:PR α)(V:α->Nat->Ending->World->Prop)(e:Ending)(w':World):Prop:=
 (∃x:Int×Int,r=.error x/\e=.panicked [{v:=.iface 205 (.agg #[.int .i64 x.1,.int .i64 x.2]),recovered:=false}]/\Off S w w')\/(∃a j,r=.ok (a,j)/\V a j e w'/\Off S w w')
theorem Ran.bad{α:Type}{S:Nat->Prop}{w w':World}{r:PR α}{V:α->Nat->Ending->World->Prop}{p e:Int}(hr:r=.error (p,e))(ho:Off S w w'):
  Ran S w r V (.panicked [{v:=.iface 205 (.agg #[.int .i64 p,.int .i64 e]),recovered:=false}]) w':=.inl ⟨(p,e),hr,rfl,ho⟩
theorem Ran.good{α:Type}{S:Nat->Prop}{w w':World}{r:PR α}{V:α->Nat->Ending->World->Prop}{a:α}{j:Nat}{e:Ending}(hr:r=.ok (a,j))(hv:V a j e w')(ho:Off S w w'):Ran S w r V e w':=.inr ⟨a,j,hr,hv,ho⟩
theorem dA(p:Prs)(w:World)(i:Nat)(h:p.At w i):Calls Tryz.prog 145 #[.pointer (some ⟨p.pb,0,none⟩)] w fun e w'=>e=.returned (.agg #[.int .i64 (aH p.l i).kind,.string (aH p.l i).text,.int .i64 (aH p.l i).n,.int .i64 (aH p.l i).pos])/\Below w.heap.size w w':=by
 have h2:=h.later (aA w (.cells #[.int .i64 0,.string ⟨#[]⟩,.int .i64 0,.int .i64 0] 201));obtain⟨⟨c1,c2,c3,c4⟩,-⟩:=h.toks i _ h.tok;have b0:=h.box0;have b1:=h.box1;obtain⟨⟨d1,d2,d3,d4⟩,-⟩:=h2.toks i _ h2.tok;have e0:=h2.box0;have e1:=h2.box1;have hlt:i<p.l.length:=h.lt;have hin:(0:Int)<=(i:Int)/\(i:Int)<(p.l.length:Int):=vT;generalize aH p.l i=t at c1 c2 c3 c4 d1 d2 d3 d4 ⊢;clear h h2;obtain⟨l,b,o,c,pb⟩:=p;simp only at *;go_enter Tryz.func145,Tryz.ntmps145
 go_wp2
 go_region
 go_wp2
 refine bodyPost_ret (v:=tokVal t) (by simp[results,Tryz.results145,go_sem]) rfl ⟨rfl,?_⟩;exact(aA _ _).drew
theorem tokF0(w:World)(a b c d:Value):(Instr.field 201 (.agg #[a,b,c,d]) 0).run Tryz.prog w=.ok a w:=vU
theorem tokF1(w:World)(a b c d:Value):(Instr.field 201 (.agg #[a,b,c,d]) 1).run Tryz.prog w=.ok b w:=vU
theorem tokF3(w:World)(a b c d:Value):(Instr.field 201 (.agg #[a,b,c,d]) 3).run Tryz.prog w=.ok d w:=vU
theorem stop_any(p:Prs)(w:World)(i:Nat)(e:Int)(h:p.At w i):Calls Tryz.prog 192 #[.pointer (some ⟨p.pb,0,none⟩),.int .i64 e] w fun en w'=>en=faultE ((aH p.l i).pos,e)/\Below w.heap.size w w':=by
 have HN:=zh (dA p w i h);clear h;generalize aH p.l i=t at HN ⊢;obtain⟨l,b,o,c,pb⟩:=p;have F3:=tokF3;go_enter Tryz.func192,Tryz.ntmps192;go_wp2_with(go_at_call 145;refine HN.out.mono ?_;rintro e' w' ⟨rfl,hb⟩);exact⟨rfl,rfl,hb⟩
theorem qS(p:Prs)(w:World)(e:Int):Calls Tryz.prog 144 #[.pointer (some ⟨p.pb,0,none⟩),.bool true,.int .i64 e] w fun en w'=>en=.returned (.tuple #[])/\w=w':=by
 obtain⟨l,b,o,c,pb⟩:=p;go_enter Tryz.func144,Tryz.ntmps144;go_wp2_with fail;go_end0;exact⟨rfl,rfl⟩
theorem qT(p:Prs)(w:World)(i:Nat)(e:Int)(h:p.At w i):Calls Tryz.prog 144 #[.pointer (some ⟨p.pb,0,none⟩),.bool false,.int .i64 e] w fun en w'=>en=faultE ((aH p.l i).pos,e)/\Below w.heap.size w w':=by
 have HN:=zh (stop_any p w i e h);clear h;generalize aH p.l i=t at HN ⊢;obtain⟨l,b,o,c,pb⟩:=p;go_enter Tryz.func144,Tryz.ntmps144;go_wp2_with(go_at_call 192;refine HN.out.mono ?_;rintro e' w' ⟨rfl,hb⟩);exact⟨rfl,rfl,hb⟩
theorem fS(p:Prs)(w:World)(i:Nat)(b:Bool)(e:Int)(h:p.At w i):Calls Tryz.prog 144 #[.pointer (some ⟨p.pb,0,none⟩),.bool b,.int .i64 e] w fun en w'=>(b=true/\en=.returned (.tuple #[])/\w=w')\/(b=false/\en=faultE ((aH p.l i).pos,e)/\Below w.heap.size w w'):=by
 cases b with
 |true=>exact(qS p w e).mono fun en w' h=>.inl ⟨rfl,h⟩
 |false=>exact(qT p w i e h).mono fun en w' h=>.inr ⟨rfl,h⟩
theorem gC(p:Prs)(w:World)(i:Nat)(s:ByteArray)(h:p.At w i):Calls Tryz.prog 133 #[.pointer (some ⟨p.pb,0,none⟩),.string s] w fun e w'=>e=.returned (.bool (isP p.l i s))/\Below w.heap.size w w':=by
 have HA:=zh h;have HN:=zh (fun W(hW:p.At W i)=>dA p W i hW);have HI:Hid (isP p.l i s=(decide ((aH p.l i).kind≠3)&&decide ((aH p.l i).text=s))):=zh rfl;clear h;generalize isP p.l i s=q at HI ⊢;generalize aH p.l i=t at HN HI;have F0:=tokF0;have F1:=tokF1;by_cases hk:t.kind=3
 ·go_enter Tryz.func133,Tryz.ntmps133;go_wp2_with(go_at_call 145;refine(HN.out w HA.out).mono ?_;rintro e w1 ⟨rfl,hb1⟩);go_ret;exact⟨aE (by rw[HI.out,decide_eq_false (by simp[hk])];rfl),hb1⟩
 ·have hk2:(t.kind != 3)=true:=by rw[bne_iff_ne];exact hk
  go_enter Tryz.func133,Tryz.ntmps133;go_wp2_with(first|(go_at_call 145;refine(HN.out w HA.out).mono ?_;rintro e w1 ⟨rfl,hb1⟩;have HA1:=zh (HA.out.later hb1))|(go_at_call 145;refine(HN.out w1 HA1.out).mono ?_;rintro e w2 ⟨rfl,hb2⟩));go_ret;exact⟨aE (by rw[HI.out,decide_eq_true hk,dD];rfl),aB hb1 hb2⟩
end Go.Proofs.YtacgopankhpnbaaGreatDoor
namespace Go.Proofs.YtacgopankhpnbaaGreatDoor
set_option maxRecDepth 100000
open Go.RowKit
theorem sA{p:Prop}(h:p:=by
 obtain⟨m,hm⟩:=hg.maxLen;have HW:=zh (word_any s w vT);have HC:=zh (Tryz.strings_Contains lI ((bs [32]++s)++bs [32]) m w (by rw[reserved_size];decide) hm);have HN:Hid (aT s=(kX s&& !Lib.contains lI.data.toList ((bs [32]++s)++bs [32]).data.toList)):=zh rfl;clear hm hg;generalize Lib.contains lI.data.toList ((bs [32]++s)++bs [32]).data.toList=q at HC HN
 cases hw:kX s with
 |false=>
  rw[hw] at HW HN;clear hw;go_enter Tryz.func147,Tryz.ntmps147;go_wp2_with(go_at_call 182;refine HW.out.mono ?_;rintro e w1 ⟨rfl,rfl⟩);go_ret;exact⟨aE (by rw[HN.out];rfl),rfl⟩
 |true=>
  rw[hw] at HW HN;clear hw;go_enter Tryz.func147,Tryz.ntmps147;go_wp2_with(first|(go_at_call 182;refine HW.out.mono ?_;rintro e w1 ⟨rfl,rfl⟩)|(go_at_call 196;refine HC.out.mono ?_;rintro e w2 ⟨rfl,rfl⟩));go_ret
  exact⟨aE (by rw[HN.out];rfl),rfl⟩):p:=h
section
variable {p:Prs} {w:World} {i:Nat} {s:ByteArray}
theorem isP_lt(h:p.At w i)(hq:isP p.l i s=true):i+1<p.l.length:=by
 refine h.last i _ h.tok ?_;unfold isP at hq;simp only[Bool.and_eq_true,decide_eq_true_eq] at hq;exact hq.1
theorem isNameP_lt(h:p.At w i)(hq:dJ p.l i=true):i+1<p.l.length:=by
 refine h.last i _ h.tok ?_;unfold dJ at hq;simp only[Bool.and_eq_true,decide_eq_true_eq] at hq;omega
theorem Prs.At.bound(h:p.At w i):(0:Int)<=(i:Int)/\(i:Int)<8001:=by have:=h.lt;have:=h.len;omega
end
theorem fR(p:Prs)(w:World)(i:Nat)(s:ByteArray)(h:p.At w i)(hq:isP p.l i s=true):
  Calls Tryz.prog 141 #[.pointer (some ⟨p.pb,0,none⟩),.string s] w fun e w'=>e=.returned (.bool true)/\p.At w' (i+1)/\Off p.S w w':=by
 have HA:=zh h;have HI:=zh (gC p w i s h);rw[hq] at HI;have hl:=isP_lt h hq;have hb:=h.bound;clear h hq;go_enter Tryz.func141,Tryz.ntmps141;go_wp2_with(go_at_call 133;refine HI.out.mono ?_;rintro e w1 ⟨rfl,hb1⟩;have HA1:=zh (HA.out.later hb1);have b1:=HA1.out.box1;have f1:=HA1.out.froz);go_ret;exact⟨rfl,(HA1.out.step hl).1,(Off.of_below hb1).trans (HA1.out.step hl).2⟩
theorem bE(p:Prs)(w:World)(i:Nat)(s:ByteArray)(h:p.At w i)(hq:isP p.l i s=false):
  Calls Tryz.prog 141 #[.pointer (some ⟨p.pb,0,none⟩),.string s] w fun e w'=>e=.returned (.bool false)/\p.At w' i/\Off p.S w w':=by
 have HA:=zh h;have HI:=zh (gC p w i s h);rw[hq] at HI;clear h hq;go_enter Tryz.func141,Tryz.ntmps141;go_wp2_with(go_at_call 133;refine HI.out.mono ?_;rintro e w1 ⟨rfl,hb1⟩);go_ret;exact⟨rfl,HA.out.later hb1,Off.of_below hb1⟩
theorem nP(p:Prs)(w:World)(i:Nat)(s:ByteArray)(h:p.At w i):
  Calls Tryz.prog 141 #[.pointer (some ⟨p.pb,0,none⟩),.string s] w fun e w'=>e=.returned (.bool (isP p.l i s))/\p.At w' (if isP p.l i s then i+1 else i)/\Off p.S w w':=by
 cases hq:isP p.l i s with
 |true=>exact fR p w i s h hq
 |false=>exact bE p w i s h hq
theorem dF(p:Prs)(w:World)(i:Nat)(s:ByteArray)(h:p.At w i):
  Calls Tryz.prog 131 #[.pointer (some ⟨p.pb,0,none⟩),.string s] w (Ran p.S w (dM p.l i s) fun _ j e w'=>e=.returned (.tuple #[])/\p.At w' j):=by
 cases hq:isP p.l i s with
 |true=>
  have HW:Hid (dM p.l i s=.ok ((),i+1)):=zh (by unfold dM;rw[hq];rfl);have HH:=zh (fR p w i s h hq);clear h hq;go_enter Tryz.func131,Tryz.ntmps131;go_wp2_with(first|(go_at_call 141;refine HH.out.mono ?_;rintro e w1 ⟨rfl,ha1,ho1⟩)|(go_at_call 144;refine(qS p _ _).mono ?_;rintro e w2 ⟨rfl,rfl⟩));go_end0;exact Ran.good HW.out ⟨rfl,ha1⟩ ho1
 |false=>
  have HW:Hid (dM p.l i s=.error ((aH p.l i).pos,11)):=zh (by unfold dM;rw[hq];rfl);have HH:=zh (bE p w i s h hq);clear h hq;go_enter Tryz.func131,Tryz.ntmps131;go_wp2_with(first|(go_at_call 141;refine HH.out.mono ?_;rintro e w1 ⟨rfl,ha1,ho1⟩)|(go_at_call 144;refine(qT p _ i _ ha1).mono ?_;rintro e w2 ⟨rfl,hb2⟩));exact⟨rfl,Ran.bad HW.out (ho1.trans (Off.of_below hb2))⟩
theorem end_any(p:Prs)(w:World)(i:Nat)(fits:Bool)(s:ByteArray)(h:p.At w i):
  Calls Tryz.prog 137 #[.pointer (some ⟨p.pb,0,none⟩),.bool fits,.string s] w (Ran p.S w (nE p.l i fits s) fun _ j e w'=>e=.returned (.tuple #[])/\p.At w' j):=by
 have HI:=zh (gC p w i s h);have HA:=zh h;have hb:=h.bound
 cases hq:isP p.l i s with
 |false=>
  have HW:Hid (nE p.l i fits s=.error ((aH p.l i).pos,11)):=zh (by unfold nE;rw[hq];rfl);rw[hq] at HI;clear h hq;go_enter Tryz.func137,Tryz.ntmps137;go_wp2_with(first|(go_at_call 133;refine HI.out.mono ?_;rintro e w1 ⟨rfl,hb1⟩;have ha1:=zh (HA.out.later hb1))|(go_at_call 144;refine(qT p _ i _ ha1.out).mono ?_;rintro e w2 ⟨rfl,hb2⟩));exact⟨rfl,Ran.bad HW.out (Off.of_below (aB hb1 hb2))⟩
 |true=>
  have hl:=isP_lt h hq
  cases fits with
  |false=>
   have HW:Hid (nE p.l i false s=.error ((aH p.l i).pos,6)):=zh (by unfold nE;rw[hq];rfl);rw[hq] at HI;clear h hq;go_enter Tryz.func137,Tryz.ntmps137;go_wp2_with(first|(go_at_call 133;refine HI.out.mono ?_;rintro e w1 ⟨rfl,hb1⟩;have ha1:=zh (HA.out.later hb1))|(go_at_call 144;refine(fS p _ i _ _ ha1.out).mono ?_;rintro e w2 (⟨he,rfl,rfl⟩|⟨he,rfl,hb2⟩)<;>first|(cases he;done)|skip));exact⟨rfl,Ran.bad HW.out (Off.of_below (aB hb1 hb2))⟩
  |true=>
   have HW:Hid (nE p.l i true s=.ok ((),i+1)):=zh (by unfold nE;rw[hq];rfl);rw[hq] at HI;clear h hq;go_enter Tryz.func137,Tryz.ntmps137;go_wp2_with(first|(go_at_call 133;refine HI.out.mono ?_;rintro e w1 ⟨rfl,hb1⟩;have ha1:=zh (HA.out.later hb1);have b1:=ha1.out.box1;have f1:=ha1.out.froz)|(go_at_call 144;refine(qS p _ _).mono ?_;rintro e w2 ⟨rfl,rfl⟩));go_end0;exact Ran.good HW.out ⟨rfl,(ha1.out.step hl).1⟩ ((Off.of_below hb1).trans (ha1.out.step hl).2)
theorem reserved_size:lI.size=124:=vU
theorem fP(s:ByteArray)(w:World)(hs:s.size<=16000)(hg:bV w):
  Calls Tryz.prog 147 #[.string s] w fun e w'=>e=.returned (.bool (aT s))/\w=w':=by
 exact sA
end Go.Proofs.YtacgopankhpnbaaGreatDoor
namespace Go.Proofs.YtacgopankhpnbaaGreatDoor
set_option maxHeartbeats 800000
open Go.RowKit
theorem sT{p:Prop}(h:p:=by
 go_wp2_with(first|(go_at_call 185;refine HI.out.mono ?_;rintro e w1 ⟨rfl,hb1⟩;have ha1:=zh (HA.out.later hb1))|(go_at_call 144;refine(qT p _ i _ ha1.out).mono ?_;rintro e w2 ⟨rfl,hb2⟩))
 exact⟨rfl,Ran.bad HW.out (Off.of_below (aB hb1 hb2))⟩):p:=h
theorem iP(p:Prs)(w:World)(i:Nat)(h:p.At w i):Calls Tryz.prog 185 #[.pointer (some ⟨p.pb,0,none⟩)] w fun e w'=>e=.returned (.bool (dJ p.l i))/\Below w.heap.size w w':=by
 have HA:=zh h;have HN:=zh (fun W(hW:p.At W i)=>dA p W i hW);have hsz:=(h.toks i _ h.tok).2;have HM:=zh (fun W(hW:p.At W i)=>fP (aH p.l i).text W vT hW.glob);have HI:Hid (dJ p.l i=(decide ((aH p.l i).kind=0)&&aT (aH p.l i).text)):=zh rfl;clear h hsz;generalize dJ p.l i=q at HI ⊢;generalize aH p.l i=t at HN HI HM;have F0:=tokF0;have F1:=tokF1;by_cases hk:t.kind=0
 ·go_enter Tryz.func185,Tryz.ntmps185;go_wp2_with(first|(go_at_call 145;refine(HN.out w HA.out).mono ?_;rintro e w1 ⟨rfl,hb1⟩;have HA1:=zh (HA.out.later hb1))|(go_at_call 145;refine(HN.out w1 HA1.out).mono ?_;rintro e w2 ⟨rfl,hb2⟩;have HA2:=zh (HA1.out.later hb2))|(go_at_call 147;refine(HM.out w2 HA2.out).mono ?_;rintro e w3 ⟨rfl,rfl⟩));go_ret;exact⟨aE (by rw[HI.out,decide_eq_true hk];rfl),aB hb1 hb2⟩
 ·have hk2:(t.kind==0)=false:=by rw[beq_eq_false_iff_ne];exact hk
  go_enter Tryz.func185,Tryz.ntmps185;go_wp2_with(go_at_call 145;refine(HN.out w HA.out).mono ?_;rintro e w1 ⟨rfl,hb1⟩);go_ret;exact⟨aE (by rw[HI.out,decide_eq_false hk];rfl),hb1⟩
theorem Prs.At.stepped{p:Prs}{w:World}{i:Nat}(h:p.At w i)(hl:i+1<p.l.length):
  (w.setCell ⟨p.pb,1,none⟩ (.int .i64 ((i:Int)+1))).cell? ⟨p.pb,0,none⟩=some (.slice (some ⟨p.b,p.o,none⟩) p.l.length p.c)/\(w.setCell ⟨p.pb,1,none⟩ (.int .i64 ((i:Int)+1))).cell? ⟨p.pb,1,none⟩=some (.int .i64 ((i:Int)+1))/\
  (w.setCell ⟨p.pb,1,none⟩ (.int .i64 ((i:Int)+1))).cell? ⟨p.b,p.o+i*4+1,none⟩=some (.string (aH p.l i).text):=by
 have h2:=(h.step hl).1;have ht:p.l[i]? =some (aH p.l i):=h.tok;exact⟨h2.box0,by simpa using h2.box1,(h2.toks i _ ht).1.2.1⟩
theorem aF(w:World):Below w.heap.size w w.drew:=(Below.refl _ _).drew
theorem fN(p:Prs)(w:World)(i:Nat)(h:p.At w i):
  Calls Tryz.prog 132 #[.pointer (some ⟨p.pb,0,none⟩)] w (Ran p.S w (gL p.l i) fun a j e w'=>e=.returned (.string a)/\p.At w' j/\a.size<=8000):=by
 have HA:=zh h;have HI:=zh (iP p w i h);have hb:=h.bound;have hsz:=zh (h.toks i _ h.tok).2
 cases hq:dJ p.l i with
 |false=>
  have HW:Hid (gL p.l i=.error ((aH p.l i).pos,11)):=zh A2;rw[hq] at HI;clear h hq;go_enter Tryz.func132,Tryz.ntmps132;exact sT
 |true=>
  have hl:=isNameP_lt h hq;have HW:Hid (gL p.l i=.ok ((aH p.l i).text,i+1)):=zh A2;rw[hq] at HI;have hin:(0:Int)<=(i:Int)/\(i:Int)<(p.l.length:Int):=vT;clear h hq;go_enter Tryz.func132,Tryz.ntmps132;go_wp2_with(first|(go_at_call 185;refine HI.out.mono ?_;rintro e w1 ⟨rfl,hb1⟩;have ha1:=zh (HA.out.later hb1);have b1:=ha1.out.box1;have f1:=ha1.out.froz)|(go_at_call 144;refine(qS p _ _).mono ?_;rintro e w2 ⟨rfl,rfl⟩;obtain⟨d0,d1,d2⟩:=ha1.out.stepped hl));go_region
  go_wp2_with fail;go_ret;exact Ran.good HW.out ⟨rfl,(ha1.out.step hl).1.later (aF _),hsz.out⟩ ((Off.of_below hb1).trans (ha1.out.step hl).2).drew
mutual
def cE(N:Nat->Prop)(w:World):Xp->List Value->Prop
 | .mk op n s m names args,cs=>∃vn va,cs=[.int .i64 op,.int .i64 n,.string s,.string m,vn,va]/\s.size<=8000/\m.size<=8000/\aK 1 bM N w vn names/\
   ∃a c,va=.slice a args.length c/\args.length<=c/\c<=9223372036854775807/\(args≠[]->∃b o,a=some ⟨b,o,none⟩/\N b/\encXs N w b o args)
def encXs(N:Nat->Prop)(w:World)(b:Nat):Nat->List Xp->Prop
 |_,[]=>True
 |o,x::r=>(∃cs,cE N w x cs/\cs.length=6/\∀j u,cs[j]? =some u->w.cell? ⟨b,o+j,none⟩=some u)/\encXs N w b (o+6) r
end
mutual
def jG(N:Nat->Prop)(w:World):Ty->List Value->Prop
 | .mk kind fields,cs=>∃vf,cs=[.int .i64 kind,vf]/\∃a c,vf=.slice a fields.length c/\fields.length<=c/\c<=9223372036854775807/\(fields≠[]->∃b o,a=some ⟨b,o,none⟩/\N b/\encFs N w b o fields)
def encFs(N:Nat->Prop)(w:World)(b:Nat):Nat->List (ByteArray×Ty)->Prop
 |_,[]=>True
 |o,(n,t)::r=>(w.cell? ⟨b,o,none⟩=some (.string n)/\n.size<=8000/\∃cs,jG N w t cs/\∀j u,cs[j]? =some u->w.cell? ⟨b,o+1+j,none⟩=some u)/\encFs N w b (o+3) r
end
def gP(N:Nat->Prop)(w:World)(f:Fld)(cs:List Value):Prop:=∃ct,cs=.string f.1::ct/\f.1.size<=8000/\jG N w f.2 ct
section
variable {N N':Nat->Prop} {w w':World}
theorem encXs_iff(b:Nat):∀(l:List Xp)(o:Nat),encXs N w b o l↔∀i x,l[i]? =some x->∃cs,cE N w x cs/\cs.length=6/\∀j u,cs[j]? =some u->w.cell? ⟨b,o+i*6+j,none⟩=some u
 |[],o=>by simp[encXs]
 |x::r,o=>by
  unfold encXs;rw[encXs_iff b r (o+6)];constructor
  ·rintro⟨h1,h2⟩ i y hy
   cases i with
   |zero=>simp at hy;subst hy;simpa using h1
   |succ i=>
    obtain⟨cs,a1,a2,a3⟩:=h2 i y BB;exact⟨cs,a1,a2,fun j u hu=>by have:=a3 j u hu;rw[show o+(i+1)*6+j=o+6+i*6+j by omega];exact this⟩
  ·intro h;refine⟨by simpa using h 0 x rfl,fun i y hy=>?_⟩;obtain⟨cs,a1,a2,a3⟩:=h (i+1) y BB;exact⟨cs,a1,a2,fun j u hu=>by have:=a3 j u hu;rw[show o+6+i*6+j=o+(i+1)*6+j by omega];exact this⟩
theorem bF(op n:Int)(s m:ByteArray)(names:List ByteArray)(args:List Xp)(cs:List Value):cE N w (.mk op n s m names args) cs↔
  ∃vn va,cs=[.int .i64 op,.int .i64 n,.string s,.string m,vn,va]/\s.size<=8000/\m.size<=8000/\aK 1 bM N w vn names/\aK 6 cE N w va args:=by
 unfold cE aK;simp only[encXs_iff]
mutual
theorem encX_moves(hm:bX N w N' w'):∀(x:Xp)(cs:List Value),cE N w x cs->cE N' w' x cs
 | .mk op n s m names args,cs,h=>by
  unfold cE at h ⊢;obtain⟨vn,va,hc,h1,h2,h3,a,c,h4,h5,h6,h7⟩:=h;refine⟨vn,va,hc,h1,h2,h3.moves aV hm vV,a,c,h4,h5,h6,fun hne=>?_⟩;obtain⟨b,o,ha,hb,hx⟩:=h7 hne
  have hlt:b<w.heap.size:=by
   cases args with
   |nil=>exact absurd rfl hne
   |cons x r=>
    unfold encXs at hx;obtain⟨⟨cs,-,hl,hj⟩,-⟩:=hx;exact dC (hj 0 (cs[0]' vT) (List.getElem?_eq_getElem _))
  exact⟨b,o,ha,(hm b hb hlt).1,encXs_moves hm b hb hlt args o hx⟩
theorem encXs_moves(hm:bX N w N' w')(b:Nat)(hb:N b)(hlt:b<w.heap.size):∀(l:List Xp)(o:Nat),encXs N w b o l->encXs N' w' b o l
 |[],_,_=>by unfold encXs;trivial
 |x::r,o,h=>by
  unfold encXs at h ⊢;obtain⟨⟨cs,h1,h2,h3⟩,h4⟩:=h;exact⟨⟨cs,encX_moves hm x cs h1,h2,fun j u hu=>(hm b hb hlt).2 _ _ (h3 j u hu)⟩,encXs_moves hm b hb hlt r (o+6) h4⟩
end
theorem aG:eU cE:=fun _ _ _ _ x cs hm h=>encX_moves hm x cs h
theorem encT_len:∀{t:Ty}{cs:List Value},jG N w t cs->cs.length=2
 | .mk _ _,_,h=>by unfold jG at h;obtain⟨vf,rfl,-⟩:=h;rfl
theorem encFs_iff(b:Nat):∀(l:List Fld)(o:Nat),encFs N w b o l↔∀i x,l[i]? =some x->∃cs,gP N w x cs/\cs.length=3/\∀j u,cs[j]? =some u->w.cell? ⟨b,o+i*3+j,none⟩=some u
 |[],o=>by simp[encFs]
 |(n,t)::r,o=>by
  unfold encFs;rw[encFs_iff b r (o+3)];constructor
  ·rintro⟨⟨h0,hn,ct,h1,h3⟩,h2⟩ i y hy
   cases i with
   |zero=>
    simp at hy;subst hy;refine⟨.string n::ct,⟨ct,rfl,hn,h1⟩,by simp[encT_len h1],fun j u hu=>?_⟩
    cases j with
    |zero=>simp at hu;subst hu;simpa using h0
    |succ j=>have:=h3 j u (by simpa using hu);rw[show o+0*3+(j+1)=o+1+j by omega];exact this
   |succ i=>
    obtain⟨cs,a1,a2,a3⟩:=h2 i y BB;exact⟨cs,a1,a2,fun j u hu=>by have:=a3 j u hu;rw[show o+(i+1)*3+j=o+3+i*3+j by omega];exact this⟩
  ·intro h;refine⟨?_,fun i y hy=>?_⟩
   ·obtain⟨cs,⟨ct,rfl,hn,h1⟩,-,a3⟩:=h 0 (n,t) rfl;refine⟨by simpa using a3 0 (.string n) rfl,hn,ct,h1,fun j u hu=>?_⟩;have:=a3 (j+1) u (by simpa using hu);rw[show o+1+j=o+0*3+(j+1) by omega];exact this
   ·obtain⟨cs,a1,a2,a3⟩:=h (i+1) y BB;exact⟨cs,a1,a2,fun j u hu=>by have:=a3 j u hu;rw[show o+3+i*3+j=o+(i+1)*3+j by omega];exact this⟩
theorem iE(kind:Int)(fields:List Fld)(cs:List Value):jG N w (.mk kind fields) cs↔∃vf,cs=[.int .i64 kind,vf]/\aK 3 gP N w vf fields:=by
 unfold jG aK;simp only[encFs_iff]
mutual
theorem encT_moves(hm:bX N w N' w'):∀(t:Ty)(cs:List Value),jG N w t cs->jG N' w' t cs
 | .mk kind fields,cs,h=>by
  unfold jG at h ⊢;obtain⟨vf,hc,a,c,h4,h5,h6,h7⟩:=h;refine⟨vf,hc,a,c,h4,h5,h6,fun hne=>?_⟩;obtain⟨b,o,ha,hb,hx⟩:=h7 hne
  have hlt:b<w.heap.size:=by
   cases fields with
   |nil=>exact absurd rfl hne
   |cons x r=>
    obtain⟨n,t⟩:=x;unfold encFs at hx;exact dC hx.1.1
  exact⟨b,o,ha,(hm b hb hlt).1,encFs_moves hm b hb hlt fields o hx⟩
theorem encFs_moves(hm:bX N w N' w')(b:Nat)(hb:N b)(hlt:b<w.heap.size):∀(l:List (ByteArray×Ty))(o:Nat),encFs N w b o l->encFs N' w' b o l
 |[],_,_=>by unfold encFs;trivial
 |(n,t)::r,o,h=>by
  unfold encFs at h ⊢;obtain⟨⟨h0,hn,cs,h1,h3⟩,h4⟩:=h;exact⟨⟨(hm b hb hlt).2 _ _ h0,hn,cs,encT_moves hm t cs h1,fun j u hu=>(hm b hb hlt).2 _ _ (h3 j u hu)⟩,encFs_moves hm b hb hlt r (o+3) h4⟩
end
theorem fL:eU jG:=fun _ _ _ _ x cs hm h=>encT_moves hm x cs h
theorem bA:eU gP:=fun _ _ _ _ x cs hm h=>by
 obtain⟨ct,h1,h2,h3⟩:=h;exact⟨ct,h1,h2,encT_moves hm _ _ h3⟩
end
theorem aK.of_block{α:Type}{k:Nat}{enc:(Nat->Prop)->World->α->List Value->Prop}{N:Nat->Prop}{w:World}{b:Nat}{css:List (List Value)}{l:List α}{T:TypeId}{fr:Nat×Nat}{n:Nat}(hb:w.heap[b]? =some (.cells css.flatten.toArray T fr))(hN:N b)
  (hl:css.length=l.length) (hk:∀c,c∈css->c.length=k) (he:∀(i:Nat)(x:α)(c:List Value),l[i]? =some x->css[i]? =some c->enc N w x c) (hn:l.length=n) (hbig:n<=9223372036854775807):
  aK k enc N w (.slice (some ⟨b,0,none⟩) n n) l:=by
 subst hn;refine⟨_,_,rfl,Nat.le_refl _,hbig,fun _=>⟨b,0,rfl,hN,fun i x hx=>?_⟩⟩;have hi:=(List.getElem?_eq_some_iff.1 hx).1;obtain⟨c,hc⟩:∃c,css[i]? =some c:=⟨_,List.getElem?_eq_getElem (by rw[hl];exact hi)⟩;have hck:=hk c (List.mem_of_getElem? hc);refine⟨c,he i x c hx hc,hck,fun j u hu=>?_⟩;have hj:j<k:=by rw[<-hck];exact(List.getElem?_eq_some_iff.1 hu).1
 have hf:=flatten_at css hk i c j hc hj;rw[hu] at hf;have h2:css.flatten.toArray[i*k+j]? =some u:=by simpa using hf
 rw[Nat.zero_add];simp[World.cell?,hb,h2]
theorem pU:∀(l:List Fld)(k:Nat)(x:Fld),l[k]? =some x->dB (l.take (k+1))=max (dB (l.take k)) (cF x.2)
 |[],k,x,h=>yL
 |y::l,0,x,h=>by
  simp at h;subst h;obtain⟨n,t⟩:=y;simp[dB]
 |y::l,k+1,x,h=>by
  have:=pU l k x xL;obtain⟨n,t⟩:=y;simp only[List.take_succ_cons,dB,this,Nat.max_assoc]
theorem levelsFs_mem:∀(l:List Fld)(x:Fld),x∈l->cF x.2<=dB l
 |[],x,h=>yG
 |(n,t)::l,x,h=>by
  unfold dB;rcases List.mem_cons.1 h with rfl|h
  ·exact Nat.le_max_left _ _
  ·exact Nat.le_trans (levelsFs_mem l x h) (Nat.le_max_right _ _)
theorem depthXs_take:∀(l:List Xp)(k:Nat)(x:Xp),l[k]? =some x->eS (l.take (k+1))=max (eS (l.take k)) (cP x)
 |[],k,x,h=>yL
 |y::l,0,x,h=>by simp at h;subst h;simp[eS]
 |y::l,k+1,x,h=>by
  have:=depthXs_take l k x xL;simp only[List.take_succ_cons,eS,this,Nat.max_assoc]
theorem depthXs_mem:∀(l:List Xp)(x:Xp),x∈l->cP x<=eS l
 |[],x,h=>yG
 |y::l,x,h=>by
  unfold eS;rcases List.mem_cons.1 h with rfl|h
  ·exact Nat.le_max_left _ _
  ·exact Nat.le_trans (depthXs_mem l x h) (Nat.le_max_right _ _)
end Go.Proofs.YtacgopankhpnbaaGreatDoor
namespace Go.Proofs.YtacgopankhpnbaaGreatDoor
set_option maxHeartbeats 1600000
open Go.RowKit
theorem tY{p:Prop}(h:p:=by
 go_wp2_with fail;go_loop [3,9] (fun m i=>m=.int .i64 0/\i=.int .i64 0) (fun _ _=>0)
 case atStart=>exact⟨rfl,rfl⟩
 case round=>
  obtain⟨rfl,rfl⟩:=hrel;go_wp2_with fail;go_ret
  exact⟨rfl,aA _ _⟩):p:=h
theorem uU{p:Prop}(h:p:=by
 go_roundw;case rel=>exact⟨q+1,vT,wH,by rw[HT.out];go_num,zh (aB HB.out (aB (aA _ _) hb1))⟩
 case measure=>simp[intOf];omega):p:=h
theorem levelsFs_le:∀(l:List Fld)(k:Nat),dB (l.take k)<=dB l
 |[],k=>vZ
 |x::l,0=>by simp[dB]
 |(n,t)::l,k+1=>by
  have:=levelsFs_le l k;simp only[List.take_succ_cons,dB];omega
theorem depthXs_le:∀(l:List Xp)(k:Nat),eS (l.take k)<=eS l
 |[],k=>vZ
 |x::l,0=>by simp[eS]
 |x::l,k+1=>by
  have:=depthXs_le l k;simp only[List.take_succ_cons,eS];omega
theorem levels_any:∀(d:Nat)(t:Ty)(N:Nat->Prop)(k:Int)(vf:Value)(w:World),cF t<=d->cF t<=9000000000000000000->jG N w t [.int .i64 k,vf]->
  Calls Tryz.prog 138 #[.agg #[.int .i64 k,vf]] w fun e w'=>e=.returned (.int .i64 (cF t:Nat))/\Below w.heap.size w w'
 |0,t,_,_,_,_,hd,_,_=>by cases t;simp[cF] at hd
 |d+1,.mk kind fields,N,k,vf,w,hd,hbig,he=>by
  rw[iE] at he;obtain⟨vf',hv,hr⟩:=he;cases hv;have hle:cF (.mk kind fields)=dB fields+1:=by rw[cF]
  rw[hle] at hd hbig ⊢;clear hle;have HIH:=zh (fun t N k vf w h1 h2 h3=>levels_any d t N k vf w h1 h2 h3);rcases hr.cases vV with⟨rfl,a,c,rfl⟩|⟨b,o,c,rfl,h0,h1,h2,hb,hN,hc⟩
  ·clear hr;go_enter Tryz.func138,Tryz.ntmps138;exact tY
  ·have HC:=zh hc;clear hc hr;go_enter Tryz.func138,Tryz.ntmps138;go_wp2_with fail;(go_loopw [3,9] (fun m i wr=>∃q:Nat,q<=fields.length/\i=.int .i64 q/\m=.int .i64 (dB (fields.take q):Nat)/\Hid (Below w.heap.size w wr)) (fun _ i _=>fields.length-(intOf i).toNat));case atStart=>exact⟨0,Nat.zero_le _,rfl,by simp[dB],zh (aA _ _)⟩
   case round=>
    obtain⟨q,hq,rfl,rfl,HB⟩:=hrel;(rename World=>wr);by_cases hlt:q<fields.length
    ·obtain⟨x,hx,hmem⟩:=getElem?_of_lt hlt;obtain⟨cs,⟨ct,rfl,hn,het⟩,-,hj⟩:=HC.out q x hx;have hm:=levelsFs_mem fields x hmem;have HT:Hid (dB (fields.take (q+1))=max (dB (fields.take q)) (cF x.2)):=zh (pU fields q x hx);obtain⟨nm,ty⟩:=x
     cases ty with
     |mk k2 f2=>
      have het2:=het;rw[iE] at het2;obtain⟨vf2,rfl,hr2⟩:=het2;obtain⟨a2,cc2,rfl,-⟩:=hr2;have c0:wr.cell? ⟨b,o+q*3,none⟩=some (.string nm):=aC HB.out (hj 0 _ rfl);have c1:=aC HB.out (hj 1 _ rfl);have c2:=aC HB.out (hj 2 _ rfl);have HE:=zh (fun W(h:Below w.heap.size w W)=>fL _ _ _ _ _ _ (bX.later h) het);have HL:=zh (fun W h=>HIH.out (.mk k2 f2) N k2 _ W (by simp only at hm;omega) (by simp only at hm;omega) (HE.out W h));simp only at HT;have hmx:=HT.out;have hlv:dB (fields.take (q+1))<=dB fields:=levelsFs_le fields _;clear hj hx hmem het hm hn;generalize cF (.mk k2 f2)=lv at HL HT hmx;generalize dB (fields.take q)=l0 at HT hmx ⊢;go_wp2_with(go_at_call 138;refine(HL.out _ (aB HB.out (aA _ _))).mono ?_;rintro e w1 ⟨rfl,hb1⟩);exact uU
    ·have hq':q=fields.length:=vT;subst hq';rw[List.take_length];generalize hlv:dB fields=lv at hbig ⊢;have HV:=zh hlv;clear hlv;go_wp2_with fail;go_ret;exact⟨fQ (by have:=HV.out;omega),HB.out⟩
theorem depth_any:∀(d:Nat)(x:Xp)(N:Nat->Prop)(op n:Int)(s m:ByteArray)(vn va:Value)(w:World),cP x<=d->cP x<=9000000000000000000->cE N w x [.int .i64 op,.int .i64 n,.string s,.string m,vn,va]->
  Calls Tryz.prog 189 #[.agg #[.int .i64 op,.int .i64 n,.string s,.string m,vn,va]] w fun e w'=>e=.returned (.int .i64 (cP x:Nat))/\Below w.heap.size w w'
 |0,x,_,_,_,_,_,_,_,_,hd,_,_=>by cases x;simp[cP] at hd
 |d+1,.mk op n s m names args,N,op',n',s',m',vn,va,w,hd,hbig,he=>by
  rw[bF] at he;obtain⟨vn',va',hv,-,-,hrn,hr⟩:=he;cases hv;have hle:cP (.mk op n s m names args)=eS args+1:=by rw[cP]
  rw[hle] at hd hbig ⊢;clear hle;have HIH:=zh (fun x N op n s m vn va w h1 h2 h3=>depth_any d x N op n s m vn va w h1 h2 h3);obtain⟨an,cn,rfl,-⟩:=hrn;rcases hr.cases vV with⟨rfl,a,c,rfl⟩|⟨b,o,c,rfl,h0,h1,h2,hb,hN,hc⟩
  ·clear hr;go_enter Tryz.func189,Tryz.ntmps189;exact tY
  ·have HC:=zh hc;clear hc hr;go_enter Tryz.func189,Tryz.ntmps189;go_wp2_with fail;(go_loopw [3,9] (fun m i wr=>∃q:Nat,q<=args.length/\i=.int .i64 q/\m=.int .i64 (eS (args.take q):Nat)/\Hid (Below w.heap.size w wr)) (fun _ i _=>args.length-(intOf i).toNat));case atStart=>exact⟨0,Nat.zero_le _,rfl,by simp[eS],zh (aA _ _)⟩
   case round=>
    obtain⟨q,hq,rfl,rfl,HB⟩:=hrel;(rename World=>wr);by_cases hlt:q<args.length
    ·obtain⟨x,hx,hmem⟩:=getElem?_of_lt hlt;obtain⟨cs,het,-,hj⟩:=HC.out q x hx;have hm:=depthXs_mem args x hmem;have HT:Hid (eS (args.take (q+1))=max (eS (args.take q)) (cP x)):=zh (depthXs_take args q x hx)
     cases x with
     |mk op2 n2 s2 m2 names2 args2=>
      have het2:=het;rw[bF] at het2;obtain⟨vn2,va2,rfl,-,-,hr1,hr2⟩:=het2;obtain⟨a1,cc1,rfl,-⟩:=hr1;obtain⟨a2,cc2,rfl,-⟩:=hr2;have c0:wr.cell? ⟨b,o+q*6,none⟩=some (.int .i64 op2):=aC HB.out (hj 0 _ rfl);have c1:=aC HB.out (hj 1 _ rfl);have c2:=aC HB.out (hj 2 _ rfl);have c3:=aC HB.out (hj 3 _ rfl);have c4:=aC HB.out (hj 4 _ rfl);have c5:=aC HB.out (hj 5 _ rfl);have HE:=zh (fun W(h:Below w.heap.size w W)=>aG _ _ _ _ _ _ (bX.later h) het);have HL:=zh (fun W h=>HIH.out (.mk op2 n2 s2 m2 names2 args2) N op2 n2 s2 m2 _ _ W vT vT (HE.out W h));have hmx:=HT.out;have hlv:eS (args.take (q+1))<=eS args:=depthXs_le args _;clear hj hx hmem het hm;generalize cP (.mk op2 n2 s2 m2 names2 args2)=lv at HL HT hmx;generalize eS (args.take q)=l0 at HT hmx ⊢;go_wp2_with(go_at_call 189;refine(HL.out _ (aB HB.out (aA _ _))).mono ?_;rintro e w1 ⟨rfl,hb1⟩);exact uU
    ·have hq':q=args.length:=vT;subst hq';rw[List.take_length];generalize hlv:eS args=lv at hbig ⊢;have HV:=zh hlv;clear hlv;go_wp2_with fail;go_ret;exact⟨fQ (by have:=HV.out;omega),HB.out⟩
set_option maxHeartbeats 800000
theorem qF(p:Prs)(w:World)(i a b:Nat)(h:p.At w i):
  Calls Tryz.prog 134 #[.pointer (some ⟨p.pb,0,none⟩),.int .i64 (a:Int),.int .i64 (b:Int)] w (Ran p.S w (iI p.l i a b) fun _ j e w'=>e=.returned (.tuple #[])/\p.At w' j):=by
 have HA:=zh h;have HR:Hid (iI p.l i a b=if a<b then .ok ((),i) else .error ((aH p.l i).pos,6)):=zh rfl;clear h;by_cases hlt:(a:Int)<(b:Int)
 ·have hl2:decide ((a:Int)<(b:Int))=true:=decide_eq_true hlt;go_enter Tryz.func134,Tryz.ntmps134;go_wp2_with(go_at_call 144;refine(fS p _ i _ _ HA.out).mono ?_;rintro e w2 (⟨he,rfl,rfl⟩|⟨he,rfl,hb2⟩)<;>first|(cases he;done)|skip);go_end0;exact Ran.good (by rw[HR.out,if_pos vT]) ⟨rfl,HA.out⟩ (Off.refl _ _)
 ·have hl2:decide ((a:Int)<(b:Int))=false:=decide_eq_false hlt;go_enter Tryz.func134,Tryz.ntmps134;go_wp2_with(go_at_call 144;refine(fS p _ i _ _ HA.out).mono ?_;rintro e w2 (⟨he,rfl,rfl⟩|⟨he,rfl,hb2⟩)<;>first|(cases he;done)|skip);exact⟨rfl,Ran.bad (by rw[HR.out,if_neg vT]) (Off.of_below hb2)⟩
theorem run_gtr_str(t:TypeId)(a b:ByteArray)(w:World):(binOp .gtr t (.string a) (.string b)).run Tryz.prog w=.ok (.bool !(Op.bytesLess a.toList b.toList||a.toList==b.toList)) w:=by
 simp[binOp,Op.stringOp]
theorem nV(p:Prs)(w:World)(i:Nat)(than:ByteArray)(any:Bool)(h:p.At w i):
  Calls Tryz.prog 186 #[.pointer (some ⟨p.pb,0,none⟩),.string than,.bool any] w (Ran p.S w (gN p.l i than any) fun a j e w'=>e=.returned (.string a)/\p.At w' j/\a.size<=8000):=by
 have HA:=zh h;have HI:=zh (iP p w i h);have HN:=zh (fun W(hW:p.At W i)=>dA p W i hW);have HM:=zh (fun W(hW:p.At W i)=>fN p W i hW);have F1:=tokF1;have hG:=run_gtr_str
 cases hq:dJ p.l i with
 |false=>
  have HW:Hid (gN p.l i than any=.error ((aH p.l i).pos,11)):=zh (by unfold gN;rw[hq];rfl);rw[hq] at HI;clear h hq;go_enter Tryz.func186,Tryz.ntmps186;exact sT
 |true=>
  have HNm:Hid (gL p.l i=.ok ((aH p.l i).text,i+1)):=zh A2;have HW:Hid (gN p.l i than any=if any&&decide ((aH p.l i).text=than) then .error ((aH p.l i).pos,5) else if any&& !gtB (aH p.l i).text than then .error ((aH p.l i).pos,12) else .ok ((aH p.l i).text,i+1)):=zh (by unfold gN;rw[hq];rfl);rw[hq] at HI;clear h hq;generalize ht:aH p.l i=t at HN HNm HW;have HTok:=zh ht;clear ht
  cases any with
  |false=>
   go_enter Tryz.func186,Tryz.ntmps186;go_wp2_with(first|(go_at_call 185;refine HI.out.mono ?_;rintro e w1 ⟨rfl,hb1⟩;have ha1:=zh (HA.out.later hb1))|(go_at_call 144;refine(qS p _ _).mono ?_;rintro e w2 ⟨rfl,rfl⟩)|(go_at_call 132;refine(HM.out _ ha1.out).mono ?_;rintro e w3 (⟨x,hx,rfl,ho⟩|⟨a,j,hx,⟨rfl,ha3,hsz⟩,ho⟩)))
   ·rw[HNm.out] at hx;cases hx
   ·rw[HNm.out] at hx;cases hx;go_ret;exact Ran.good (by rw[HW.out];rfl) ⟨rfl,ha3,hsz⟩ ((Off.of_below hb1).trans ho)
  |true=>
   go_enter Tryz.func186,Tryz.ntmps186;go_wp2_with(first|(go_at_call 185;refine HI.out.mono ?_;rintro e w1 ⟨rfl,hb1⟩;have ha1:=zh (HA.out.later hb1))|(go_at_call 145;refine(HN.out w2 ha2.out).mono ?_;rintro e w3 ⟨rfl,hb3⟩;have ha3:=zh (ha2.out.later hb3))|(go_at_call 145;refine(HN.out w1 ha1.out).mono ?_;rintro e w2 ⟨rfl,hb2⟩;have ha2:=zh (ha1.out.later hb2))|(go_at_call 132;refine(HM.out w3 ha3.out).mono ?_;rintro e w4 (⟨x,hx,rfl,ho⟩|⟨a,j,hx,⟨rfl,ha4,hsz⟩,ho⟩))|(go_at_call 144;refine(fS p w3 i _ _ ha3.out).mono ?_;rintro e w5 (⟨he3,rfl,rfl⟩|⟨he3,rfl,hb5⟩))|(go_at_call 144;refine(fS p w2 i _ _ ha2.out).mono ?_;rintro e w5 (⟨he2,rfl,rfl⟩|⟨he2,rfl,hb5⟩))|(go_at_call 144;refine(fS p w1 i _ _ ha1.out).mono ?_;rintro e w5 (⟨he1,rfl,rfl⟩|⟨he1,rfl,hb5⟩)<;>first|(cases he1;done)|skip))
   ·rw[HNm.out] at hx;cases hx
   ·rw[HNm.out] at hx;cases hx;(have e2:(t.text.toList==than.toList)=false:=by simpa using he2);(have e3:gtB t.text than=true:=by unfold gtB;rw[e2];simpa using he3);go_wp2_with fail;go_ret;exact Ran.good (by rw[HW.out,e3,<-dD,e2];rfl) ⟨rfl,ha4,hsz⟩ ((Off.of_below (aB hb1 (aB hb2 hb3))).trans ho)
   ·(have e2:(t.text.toList==than.toList)=false:=by simpa using he2);(have e3:gtB t.text than=false:=by unfold gtB;rw[e2];simpa using he3);exact⟨rfl,Ran.bad (by rw[HTok.out,HW.out,e3,<-dD,e2];rfl) (Off.of_below (aB hb1 (aB hb2 (aB hb3 hb5))))⟩
   ·(have e2:(t.text.toList==than.toList)=true:=by simpa using he2);exact⟨rfl,Ran.bad (by rw[HTok.out,HW.out,<-dD,e2];rfl) (Off.of_below (aB hb1 (aB hb2 hb5)))⟩
set_option maxHeartbeats 1000000
set_option maxRecDepth 100000
def eK(aO:ByteArray->Bool)(x:ByteArray):Option Bool:=if aO x then some true else none
theorem setOf_getD(aO:ByteArray->Bool)(x:ByteArray):(eK aO x).getD false=aO x:=by unfold eK;cases aO x<;>rfl
theorem setOf_put(aO:ByteArray->Bool)(a:ByteArray):(fun z=>if z=a then some true else eK aO z)=eK (fun z=>decide (z=a)||aO z):=by
 funext z;unfold eK;by_cases h:z=a<;>simp[h]
abbrev Prs.S2(p:Prs)(km:Nat):Nat->Prop:=fun k=>k=p.pb\/k=km
theorem Off.mono{S S':Nat->Prop}{w w':World}(h:Off S w w')(hS:∀k,S k->S' k):Off S' w w':=⟨h.os,h.tape,h.output,h.size,fun k hk hn=>h.block k hk (fun hs=>hn (hS k hs))⟩
theorem off_map{w w':World}{km:Nat}{S:Nat->Prop}(hS:S km)(hg:w.grownBy w' (some km)):Off S w w':=Off.of_only (iX hg) hS
section
variable {p:Prs} {w w':World} {i km n:Nat} {aO:ByteArray->Bool}
theorem Prs.At.nemap(h:p.At w i)(hm:dE w km):km≠p.pb/\km≠p.b:=by
 have h0:=h.lt;exact⟨fun e=>hm.ne h.box0 e.symm,fun e=>hm.ne (h.toks i _ h.tok).1.1 e.symm⟩
theorem Prs.At.grown(h:p.At w i)(hm:dE w km)(hk:11<=km)(hg:w.grownBy w' (some km)):p.At w' i:=by
 have hn:=h.nemap hm;exact h.off (S:=fun k=>k=km) (off_map rfl hg) (fun e=>hn.1 e.symm) (fun e=>hn.2 e.symm) (fun k hk2 e=>vT)
theorem map_off{P:Program}{kt et:TypeId}{κ ν:Type}{K:KeyC P kt κ}{V:ValC P et ν}{m:κ->Option ν}(h:p.At w i)(hm:bD K V w km n m)(ho:Off p.S w w'):bD K V w' km n m:=
 hm.of_block (ho.block km hm.lt (h.nemap (dE.of hm)).1)
end
theorem nX(p:Prs)(w:World)(i km n:Nat)(aO:ByteArray->Bool)(h:p.At w i)(hm:bD eZ dO w km n (eK aO))(hk:11<=km)(hn:n<1000000):
  Calls Tryz.prog 135 #[.pointer (some ⟨p.pb,0,none⟩),.map (some km)] w (Ran (p.S2 km) w (iQ p.l i aO) fun a j e w'=>e=.returned (.string a)/\p.At w' j/\bD eZ dO w' km (n+1) (eK fun z=>decide (z=a)||aO z)/\a.size<=8000):=by
 have HA:=zh h;have HMp:=zh hm;have HI:=zh (iP p w i h);have HN:=zh (fun W(hW:p.At W i)=>dA p W i hW);have HM:=zh (fun W(hW:p.At W i)=>fN p W i hW);have hsz:=(h.toks i _ h.tok).2;have F1:=tokF1;have hS:∀k,p.S k->p.S2 km k:=fun k h=>.inl h
 cases hq:dJ p.l i with
 |false=>
  have HW:Hid (iQ p.l i aO=.error ((aH p.l i).pos,11)):=zh (by unfold iQ;rw[hq];rfl);rw[hq] at HI;clear h hq hm hsz;go_enter Tryz.func135,Tryz.ntmps135;exact sT
 |true=>
  have HNm:Hid (gL p.l i=.ok ((aH p.l i).text,i+1)):=zh A2;have HW:Hid (iQ p.l i aO=if aO (aH p.l i).text then .error ((aH p.l i).pos,5) else .ok ((aH p.l i).text,i+1)):=zh (by unfold iQ;rw[hq];unfold kQ;rfl);rw[hq] at HI;clear h hq hm;generalize ht:aH p.l i=t at HN HNm HW hsz;have HTok:=zh ht;clear ht;have s1:t.text.size<=140737488355328:=vT;have HL:=zh (setOf_getD aO t.text);have HP:=zh (setOf_put aO t.text);generalize hkn:aO t.text=q at HL HW;clear hkn;go_enter Tryz.func135,Tryz.ntmps135;go_wp2_with(first|(go_at_call 185;refine HI.out.mono ?_;rintro e w1 ⟨rfl,hb1⟩;have ha1:=zh (HA.out.later hb1);have hm1:=zh (HMp.out.later hb1))|(go_at_call 145;refine(HN.out w2 ha2.out).mono ?_;rintro e w3 ⟨rfl,hb3⟩;have ha3:=zh (ha2.out.later hb3);have hm3:=zh (hm2.out.later hb3))|(go_at_call 145;refine(HN.out w1 ha1.out).mono ?_;rintro e w2 ⟨rfl,hb2⟩;have ha2:=zh (ha1.out.later hb2);have hm2:=zh (hm1.out.later hb2))|(go_at_call 132;refine(HM.out w4 ha4.out).mono ?_;rintro e w5 (⟨x,hx,rfl,ho⟩|⟨a,j,hx,⟨rfl,ha5,hsz5⟩,ho⟩))|(go_at_call 144;refine(fS p w2 i _ _ ha2.out).mono ?_;rintro e w5 (⟨he2,rfl,rfl⟩|⟨he2,rfl,hb5⟩))|(go_at_call 144;refine(fS p w1 i _ _ ha1.out).mono ?_;rintro e w5 (⟨he1,rfl,rfl⟩|⟨he1,rfl,hb5⟩)<;>first|(cases he1;done)|skip)|(at_lookup;refine bT hm2.out s1 HL.out rfl rfl rfl rfl ?_)|(at_mapUpdate;refine kP hm3.out vT s1 rfl rfl rfl rfl rfl ?_;intro w4 hm4 hg4;have ha4:=zh (ha3.out.grown (dE.of hm3.out) hk hg4);have hg4':=zh hg4;have hm4':=zh (hm4.ext (fun z=>congrFun HP.out z));clear hm4 hg4))
  ·rw[HNm.out] at hx;cases hx
  ·rw[HNm.out] at hx;cases hx;go_ret;(have hq:q=false:=by cases q<;>simp_all);exact Ran.good (by rw[HW.out,hq];rfl) ⟨rfl,ha5,map_off ha4.out hm4'.out ho,hsz5⟩ ((Off.of_below (aB hb1 (aB hb2 hb3))).trans ((off_map (.inr rfl) hg4'.out).trans (ho.mono hS)))
  ·(have hq:q=true:=by cases q<;>simp_all);exact⟨rfl,Ran.bad (by rw[HTok.out,HW.out,hq];rfl) (Off.of_below (aB hb1 (aB hb2 hb5)))⟩
end Go.Proofs.YtacgopankhpnbaaGreatDoor
namespace Go.Proofs.YtacgopankhpnbaaGreatDoor
set_option maxRecDepth 100000
open Go.RowKit
theorem sL{p:Prop}(h:p:=by
 go_enter Tryz.func187,Tryz.ntmps187;go_wp2_with(first|(go_at_call 138;refine(HL.out _ (aA _ _)).mono ?_;rintro e w1 ⟨rfl,hb1⟩;have hb1':=zh (aB (aA _ _) hb1);have ha1:=zh (HA.out.later hb1'.out))|(go_at_call 133;refine(HI.out w1 ha1.out).mono ?_;rintro e w2 ⟨rfl,hb2⟩;have ha2:=zh (ha1.out.later hb2))|(go_at_call 137;refine(HE.out w2 _ _ ha2.out).mono ?_;rintro e w3 (⟨x,hx,rfl,ho⟩|⟨⟨⟩,j,hx,⟨rfl,ha3⟩,ho⟩)))
 ·exact⟨rfl,Ran.bad (by rw[HM.out,<-HD.out,hx];rfl) ((Off.of_below (aB hb1'.out hb2)).trans ho)⟩
 ·go_ret
  exact Ran.good (by rw[HM.out,<-HD.out,hx];rfl) ⟨rfl,ha3⟩ ((Off.of_below (aB hb1'.out hb2)).trans ho)):p:=h
abbrev effectB:ByteArray:=bs [102,105,108,101,115,32,110,101,116,32,99,108,111,99,107,32,115,101,99,114,101,116,115]
abbrev bY:List ByteArray:=[kFiles,kNet,kClock,kSecrets]
theorem effFields:(Lib.fields effectB.data.toList).map (fun l=>Value.string ⟨l.toArray⟩)=bY.map Value.string:=xK
theorem effLen:(Lib.fields effectB.data.toList).length=4:=xK
theorem effAscii:∀(j:Nat)b,effectB.data.toList[j]? =some b->b.toNat<128:=by
 have h:effectB.data.toList.all (fun b=>decide (b.toNat<128))=true:=xK;intro j b hb;have:=List.all_eq_true.1 h b (List.mem_of_getElem? hb);simpa using this
theorem bitOf_idx(s:ByteArray):(Lib.idxOfS bY s=0/\dH s=1)\/(Lib.idxOfS bY s=1/\dH s=2)\/(Lib.idxOfS bY s=2/\dH s=4)\/(Lib.idxOfS bY s=3/\dH s=8)\/(Lib.idxOfS bY s= -1/\dH s=0):=by
 unfold Lib.idxOfS dH;by_cases h1:s=kFiles
 ·left;subst h1;exact⟨rfl,rfl⟩
 ·by_cases h2:s=kNet
  ·right;left;subst h2;exact⟨rfl,rfl⟩
  ·by_cases h3:s=kClock
   ·right;right;left;subst h3;exact⟨rfl,rfl⟩
   ·by_cases h4:s=kSecrets
    ·right;right;right;left;subst h4;exact⟨rfl,rfl⟩
    ·right;right;right;right;refine⟨?_,by rw[if_neg h1,if_neg h2,if_neg h3,if_neg h4]⟩;simp only[Lib.idxFromS,if_neg (Ne.symm h1),if_neg (Ne.symm h2),if_neg (Ne.symm h3),if_neg (Ne.symm h4)]
theorem effCells(w:World):∀j,j<bY.length->(w.alloc (.cells (bY.map Value.string).toArray 9)).cell? ⟨w.heap.size,0+j,none⟩=some (.string (bY.getD j ByteArray.empty)):=by
 intro j hj;rw[cell_of_row _ w.heap.size (0+j) _ _ _ (heap_alloc_new w _),Nat.zero_add]
 match j,hj with
 |0,_=>rfl
 |1,_=>rfl
 |2,_=>rfl
 |3,_=>rfl
theorem fieldsEff(w:World)(hs:Lib.TabIs Tryz.prog w "strings.asciiSpace" .u8 Lib.asciiSpaceTab):Calls Tryz.prog 190 #[.string effectB] w fun e w'=>e=.returned (.slice (some ⟨w.heap.size,0,none⟩) 4 4)/\w'=w.alloc (.cells (bY.map Value.string).toArray 9):=by
 have h:=Tryz.strings_Fields_laid effectB w vV effAscii hs;rw[effLen,effFields] at h;exact h
theorem mG(s:ByteArray)(w:World)(hs:Lib.TabIs Tryz.prog w "strings.asciiSpace" .u8 Lib.asciiSpaceTab):
  Calls Tryz.prog 191 #[.string s] w fun e w'=>e=.returned (.int .i64 (dH s))/\Below w.heap.size w w':=by
 have HF:=zh (fieldsEff w hs);have HI:=zh (Tryz.slices_Index_string w.heap.size 0 4 4 bY s (w.alloc (.cells (bY.map Value.string).toArray 9)) (Nat.le_refl _) vV (effCells w));have HB:=zh (aA w (.cells (bY.map Value.string).toArray 9));rw[show bY.take 4=bY from rfl] at HI;have hb:=bitOf_idx s;generalize w.alloc (.cells (bY.map Value.string).toArray 9)=w1 at HF HI HB;generalize Lib.idxOfS bY s=q at HI hb;generalize dH s=r at hb ⊢;clear hs;rcases hb with⟨rfl,rfl⟩|⟨rfl,rfl⟩|⟨rfl,rfl⟩|⟨rfl,rfl⟩|⟨rfl,rfl⟩
 all_goals go_enter Tryz.func191,Tryz.ntmps191
 all_goals go_wp2_with(first|(go_at_call 190;refine HF.out.mono ?_;rintro e w2 ⟨rfl,rfl⟩)|(go_at_call 222;refine HI.out.mono ?_;rintro e w2 ⟨rfl,rfl⟩))
 all_goals go_ret
 all_goals exact⟨rfl,HB.out⟩
theorem more_any(p:Prs)(w:World)(i:Nat)(N:Nat->Prop)(t:Ty)(k:Int)(vf:Value)(s:ByteArray)(h:p.At w i)(ht:jG N w t [.int .i64 k,vf])(hbig:cF t<=9000000000000000000):
  Calls Tryz.prog 187 #[.pointer (some ⟨p.pb,0,none⟩),.agg #[.int .i64 k,vf],.string s] w (Ran p.S w (moreP p.l i t s) fun b j e w'=>e=.returned (.bool b)/\p.At w' j):=by
 have HA:=zh h;have HL:=zh (fun W(hW:Below w.heap.size w W)=>levels_any _ t N k vf W (Nat.le_refl _) hbig (fL _ _ _ _ _ _ (bX.later hW) ht));have HI:=zh (fun W(hW:p.At W i)=>gC p W i bW hW);have HE:=zh (fun W f s(hW:p.At W i)=>end_any p W i f s hW);have HM:Hid (moreP p.l i t s=if isP p.l i bW then(nE p.l i (decide (cF t<=4)) bW).bnd fun _ j=>.ok (false,j) else(nE p.l i (decide (cF t<=4)) s).bnd fun _ j=>.ok (true,j)):=zh rfl
 have hvf:∃a n c,vf=.slice a n c:=by
  cases t;rw[iE] at ht;obtain⟨v,e,a,c,rfl,-⟩:=ht;cases e;exact⟨_,_,_,rfl⟩
 obtain⟨a,n,c,rfl⟩:=hvf;clear h ht hbig;have hdec:decide ((cF t:Int)<=4)=decide (cF t<=4):=xE;have HD:=zh hdec;clear hdec;generalize cF t=lv at HL HM HD;generalize isP p.l i bW=q at HI HM
 cases q with
 |true=>
  exact sL
 |false=>
  exact sL
def posOf(w:World)(pb:Nat):Nat:=match w.cell? ⟨pb,1,none⟩ with
 |some (.int _ n)=>n.toNat
 |_=>0
theorem Prs.At.pos{p:Prs}{w:World}{i:Nat}(h:p.At w i):posOf w p.pb=i:=by unfold posOf;rw[h.box1];simp
theorem bx{w:World}{b:Nat}{cs:Array Value}{t:TypeId}(h:w.heap[b]? =some (.cells cs t))(i:Nat){u:Value}(hu:cs[i]? =some u):w.cell? ⟨b,i,none⟩=some u/\w.frozen? ⟨b,i,none⟩=false:=by
 constructor<;>simp[World.cell?,World.frozen?,h,hu]
theorem PR.bnd_bad{α β:Type}{m:PR α}{k:α->Nat->PR β}{x:Int×Int}(h:m=.error x):m.bnd k=.error x:=by rw[h];rfl
theorem PR.bnd_ok{α β:Type}{m:PR α}{k:α->Nat->PR β}{a:α}{j:Nat}(h:m=.ok (a,j)):m.bnd k=k a j:=by rw[h];rfl
theorem PR.of_bnd{α β:Type}{m:PR α}{k:α->Nat->PR β}{b:β}{j:Nat}(h:m.bnd k=.ok (b,j)):∃a i,m=.ok (a,i)/\k a i=.ok (b,j):=by
 unfold PR.bnd at h;split at h
 ·cases h
 ·exact⟨_,_,rfl,h⟩
section
variable {l:List Tok}
theorem cX{i j:Nat}{s:ByteArray}(h:dM l i s=.ok ((),j)):j=i+1/\isP l i s=true:=by
 unfold dM at h;split at h
 ·cases h;exact⟨rfl,‹_›⟩
 ·cases h
theorem endP_ok{i j:Nat}{f:Bool}{s:ByteArray}(h:nE l i f s=.ok ((),j)):j=i+1:=by
 unfold nE at h;split at h
 ·split at h
  ·cases h;rfl
  ·cases h
 ·cases h
theorem fY{i j:Nat}{a:ByteArray}(h:gL l i=.ok (a,j)):j=i+1:=by
 unfold gL at h;split at h
 ·cases h;rfl
 ·cases h
theorem laterP_ok{i j:Nat}{a than:ByteArray}{any:Bool}(h:gN l i than any=.ok (a,j)):j=i+1:=by
 unfold gN at h;split at h
 ·split at h
  ·cases h
  ·split at h
   ·cases h
   ·cases h;rfl
 ·cases h
theorem qN{i j:Nat}{a:ByteArray}{aO:ByteArray->Bool}(h:iQ l i aO=.ok (a,j)):j=i+1:=by
 unfold iQ at h;split at h
 ·split at h
  ·cases h
  ·cases h;rfl
 ·cases h
theorem qK{i j:Nat}{t:Ty}{s:ByteArray}{b:Bool}(h:moreP l i t s=.ok (b,j)):j=i+1:=by
 unfold moreP at h;split at h
 ·obtain⟨a,k,h1,h2⟩:=PR.of_bnd h;have:=endP_ok h1;cases h2;exact this
 ·obtain⟨a,k,h1,h2⟩:=PR.of_bnd h;have:=endP_ok h1;cases h2;exact this
theorem pZ{rec:Nat->PR Ty}{D:Nat}(hr:∀i t j,rec i=.ok (t,j)->cF t<=D):∀(F:Nat)(fs:List Fld)(i:Nat)(t:Ty)(j:Nat),dB fs<=D->fE l rec F fs i=.ok (t,j)->cF t<=D+1
 |0,fs,i,t,j,hf,h=>by
  unfold fE at h;cases h;rw[cF];omega
 |F+1,fs,i,t,j,hf,h=>by
  unfold fE at h;obtain⟨_,_,-,h⟩:=PR.of_bnd h;obtain⟨s,j1,-,h⟩:=PR.of_bnd h;obtain⟨u,j2,hu,h⟩:=PR.of_bnd h;obtain⟨q,j3,-,h⟩:=PR.of_bnd h;have hu2:=hr _ _ _ hu
  have hn:dB (fs++[(s,u)])<=D:=by
   have h1:=pU (fs++[(s,u)]) fs.length (s,u) vZ;rw[List.take_of_length_le vZ,List.take_left] at h1;rw[h1];exact Nat.max_le.2 ⟨hf,hu2⟩
  split at h
  ·cases h;rw[cF];omega
  ·exact pZ hr F _ _ t j hn h
theorem mU:∀(f i:Nat)(t:Ty)(j:Nat),gH l f i=.ok (t,j)->cF t<=f
 |0,i,t,j,h=>by unfold gH at h;cases h
 |f+1,i,t,j,h=>by
  unfold gH at h;split at h
  ·cases h;simp[cF,dB]
  ·split at h
   ·cases h;simp[cF,dB]
   ·obtain⟨_,j1,-,h⟩:=PR.of_bnd h;split at h
    ·cases h;simp[cF,dB]
    ·exact pZ (fun i t j h=>mU f i t j h) _ _ _ t j (by simp[dB]) h
def jE(fs:List Fld):ByteArray:=(fs.getLast?.map (·.1)).getD noB
theorem gI{rec:Nat->PR Ty}{F:Nat}{fs:List Fld}{i:Nat}(hq:dJ l i=true):fE l rec (F+1) fs i=
  (iI l i fs.length 8).bnd fun _ _=>(gN l i (jE fs) (decide (0<fs.length))).bnd fun s j=>(rec j).bnd fun t j2=>(moreP l j2 t iK).bnd fun q j3=>
   if q then .ok (.mk 2 (fs++[(s,t)]),j3) else fE l rec F (fs++[(s,t)]) j3:=by
 rw[fE,if_pos hq];rfl
theorem pY{rec:Nat->PR Ty}{F:Nat}{fs:List Fld}{i:Nat}(hq:dJ l i=false):fE l rec (F+1) fs i=.error ((aH l i).pos,11):=by
 rw[fE,if_neg zY];unfold gN;rw[hq];rfl
end
end Go.Proofs.YtacgopankhpnbaaGreatDoor
