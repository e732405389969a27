/- Joined. -/
import Derived.Test.YtacgopankhpnbaaGreatDoorTQZ
import Derived.Test.YtacgopankhpnbaaGreatDoorTQS
set_option maxHeartbeats 2000000
set_option maxRecDepth 100000
set_option linter.unusedVariables false
set_option linter.unusedSimpArgs false
namespace Go.Proofs.YtacgopankhpnbaaGreatDoor
open Go.RowKit
abbrev tokCells(t:Tok):List Value:=[.int .i64 t.kind,.string t.text,.int .i64 t.n,.int .i64 t.pos]
def encTok(_:Nat->Prop)(_:World)(x:Tok)(cs:List Value):Prop:=cs=tokCells x/\x.text.size<=8000
theorem nJ:eW encTok:=fun _ _ _ _ _ _ _ h=>h
theorem tokInfo:(Tryz.prog.info? 201).map (fun i=>(i.zero,i.size,i.bytes))=some (some (oBx30 0 ByteArray.empty 0 0),4,40):=aAN
structure LexSt (s:bA) (W:World) (i:Nat) (out:List Tok) (css:List (List Value)) (v:Value) (wr:World):Prop where
 acc:Gro 4 201 encTok W.heap.size out css v wr
 below:Below W.heap.size W wr
 len:out.length<=i
 le:i<=s.size
 rest:∃f,jI s (s.size+1) 0 []=jI s (f+1) i out/\s.size<=f+i
 ok:∀t,t∈out->t.kind≠3/\t.text.size<=s.size
def lexV(B:Nat)(s:bA)(r:Except (Int×Int) (List Tok))(e:Ending)(w':World):Prop:=match r with
 | .error x=>e=.returned (.tuple #[.slice none 0 0,.int .i64 x.1,.int .i64 x.2])
 | .ok l=>∃v,e=.returned (.tuple #[v,.int .i64 0,.int .i64 0])/\aL 4 encTok (bM B) w' v l/\TokOk s l
theorem nextV_err(e:Int):pK (.error e)=.tuple #[tokV 0 ⟨#[]⟩ 0 0,.int .i64 e]:=rfl
theorem nextV_ok(k n:Int)(t:bA):pK (.ok (k,t,n))=.tuple #[tokV k t n 0,.int .i64 0]:=rfl
theorem grown_belowB{u w w':World}{row:Option Nat}(h:Below u.heap.size u w)(hg:w.grownBy w' row)(hr:∀b,row=some b->u.heap.size<=b):Below u.heap.size u w':=
 ⟨hg.os.trans h.os,hg.tape.trans h.tape,hg.output.trans h.output,Nat.le_trans h.size hg.size,fun k hk=>(hg.block k (by have:=h.size;omega) (fun e=>by have:=hr k e.symm;omega)).trans (h.block k hk)⟩
theorem lex_any(s:bA)(w:World)(hs:s.size<=140737488355328)(hg:SignsAt w):
  Calls Tryz.prog 107 #[.string s] w fun e w'=>lexV w.heap.size s (lexL s) e w'/\Below w.heap.size w w':=by
 obtain⟨i0,vA,tM,sY,sX⟩:=info_parts tokInfo;have HG:=zh hg;clear hg;by_cases tC:(8000:Int)<(s.size:Int)
 ·have HL:Hid (lexL s=.error (0,6)):=zh (by unfold lexL;rw[if_pos aAM]);go_enter Tryz.func107,Tryz.ntmps107;go_wp2_with fail;refine bodyPost_ret (v:=.tuple #[.slice none 0 0,.int .i64 0,.int .i64 6]) aCB rfl ⟨?_,Below.refl _ _⟩;rw[HL.out];rfl
 have tI:s.size<=8000:=aAM;have HL:Hid (lexL s=jI s (s.size+1) 0 []):=zh (by unfold lexL;rw[if_neg aAM]);go_enter Tryz.func107,Tryz.ntmps107;go_wp2_with fail;go_loopw [5,6] (fun v iv wr=>∃(i:Nat)(out:List Tok)(css:List (List Value)),iv=.int .i64 i/\Hid (LexSt s w i out css v wr)) (fun _ iv _=>s.size-(intOf iv).toNat)
 case atStart=>exact⟨0,[],[],rfl,zh ⟨Gro.first _ _ _ _,Below.refl _ _,Nat.le_refl _,Nat.zero_le _,⟨s.size,rfl,aAM⟩,fun t h=>aBx⟩⟩
 case round=>
  obtain⟨i,out,css,rfl,HS⟩:=hrel;rename World=>wr
  have hi:i<=s.size:=HS.out.le;obtain⟨f,hf,A2⟩:=HS.out.rest;have HF:=zh hf;clear hf;have HR:Hid (iU s i=s.extract i s.size):=zh rfl;have hn:=spanN_le jY (iU s i).data.toList;rw[<-iS,lQ] at hn;have sK:=zh (span_any 128 jY (iU s i) wr (by rw[lQ];omega) enters_blank blank_any);rw[HR.out] at sK;have HE:=zh (fun h=>lexFrom_end (s:=s) (f:=f) (i:=i) (out:=out) h);have wA:=zh (fun e h hn=>lexFrom_bad (s:=s) (f:=f) (i:=i) (out:=out) (e:=e) h hn);have HOn:=zh (fun k n t h hn=>lexFrom_on (s:=s) (f:=f) (i:=i) (out:=out) (k:=k) (n:=n) (t:=t) h hn);rw[HR.out] at hn HE wA HOn;generalize dX jY (s.extract i s.size).data.toList=n at hn sK HE wA HOn;have PM:=HS.out.below.size;by_cases AJ:i+n=s.size
  ·have hend2:(i:Int)+(n:Int)=(s.size:Int):=aAM;have zY:=zh AJ;(have yZ:out.length<=8000:=by have:=HS.out.len;omega);go_wp2_with(first|(go_at_call 127;refine sK.out.mono ?_;rintro e w' ⟨rfl,rfl⟩)|(at_builtin;refine wpList_append_lies _ rfl _ _ 157 rfl w.heap.size 201 i0 (oBx30 0 ByteArray.empty 0 0) 4 40 Tryz.underlying157 vA tM sY sX rfl aAM _ out.length css.flatten aBm (HS.out.acc.own.alloc _) ⟨wr.heap.size,0,none⟩ 1 1 [.int .i64 3,.string ⟨#[]⟩,.int .i64 0,.int .i64 (s.size:Int)] aBm rfl (World.news_of_block (cs:=#[.int .i64 3,.string ⟨#[]⟩,.int .i64 0,.int .i64 (s.size:Int)]) (t:=201) (fr:=(0,0)) (bY wr _)) aA1 aAM aAY aAM aA0 (wr.heap.size+1) aAQ ?_));intro g cap w1 sB sA sM _;have HA:=HS.out.acc.later nJ (aA wr (dE 3 ⟨#[]⟩ 0 (s.size:Int)));have tN:=zh ((HA.added nJ (x:=⟨3,⟨#[]⟩,0,s.size⟩) ⟨rfl,Nat.zero_le _⟩ rfl sB sA aCb).row nJ);have wU:=zh (TokOk.of (s:=s) (out:=out) (p:=s.size) (by have:=HS.out.len;omega) HS.out.ok);have sV:=zh (grown_belowB (aB HS.out.below (aA wr (dE 3 ⟨#[]⟩ 0 (s.size:Int)))) sA (fun b hb=>(HA.lt b hb).1));clear sB sA sM HA;go_wp2_with fail;refine bodyPost_ret (v:=.tuple #[.slice (some ⟨g,0,none⟩) (out.length+1) cap,.int .i64 0,.int .i64 0]) aCB rfl ⟨?_,sV.out⟩;rw[HL.out,HF.out,HE.out zY.out];exact⟨_,rfl,tN.out,wU.out⟩
  have hend2:¬(i:Int)+(n:Int)=(s.size:Int):=aAM;have zY:=zh AJ;have sE:i+n<s.size:=aAM;have HC:Hid ((i:Int)+(n:Int)=((i+n:Nat):Int)):=zh aAM;have uD:0<(iU s (i+n)).size:=by rw[lQ];omega
  have HN:=zh (lexnext_any (iU s (i+n)) wr (by rw[lQ];omega) uD (HG.out.later HS.out.below));have FY:=zh (fun k t n'=>nextTok_ok (s:=iU s (i+n)) uD (k:=k) (t:=t) (n:=n'));clear uD
  cases hq:gV (iU s (i+n)) with
  |error e0=>
   rw[hq,nextV_err] at HN;rw[show iU s (i+n)=s.extract (i+n) s.size from rfl] at HN;have HQ:=zh (wA.out e0 AJ hq);have JK:=nextTok_err hq;clear hq wA HOn HE FY;go_wp2_with(first|(go_at_call 127;refine sK.out.mono ?_;rintro e w' ⟨rfl,rfl⟩)|(go_at_call 129;refine HN.out.mono ?_;rintro e w' ⟨rfl,hb⟩));have sV:=zh (aB HS.out.below (aB hb (aA w' (dE 0 ⟨#[]⟩ 0 0))));refine bodyPost_ret (v:=.tuple #[.slice none 0 0,.int .i64 ((i:Int)+(n:Int)),.int .i64 e0]) aCB rfl ⟨?_,sV.out⟩;rw[HL.out,HF.out,HQ.out,HC.out];rfl
  |ok r=>
   obtain⟨k,t,m⟩:=r;rw[hq,nextV_ok] at HN;rw[show iU s (i+n)=s.extract (i+n) s.size from rfl] at HN;have HQ:=zh (HOn.out k m t AJ hq);have HT:=zh (FY.out k t m hq);clear hq wA HOn HE FY;(have ht1:(i:Int)+(n:Int)+(t.size:Int)<=(s.size:Int):=by have:=HT.out.2.2;rw[lQ] at this;omega);(have yZ:out.length<=8000:=by have:=HS.out.len;omega);go_wp2_with(first|(go_at_call 127;refine sK.out.mono ?_;rintro e w' ⟨rfl,rfl⟩)|(go_at_call 129;refine HN.out.mono ?_;rintro e w1 ⟨rfl,hb⟩;have HA:=zh (HS.out.acc.later nJ hb);have zH:=hb.size)|(at_builtin;refine wpList_append_lies _ rfl _ _ 157 rfl w.heap.size 201 i0 (oBx30 0 ByteArray.empty 0 0) 4 40 Tryz.underlying157 vA tM sY sX rfl aAM _ out.length css.flatten aBm ((HA.out.own.alloc _).alloc _) ⟨w1.heap.size+1,0,none⟩ 1 1 [.int .i64 k,.string t,.int .i64 m,.int .i64 ((i:Int)+(n:Int))] aBm rfl (World.news_of_block (cs:=#[.int .i64 k,.string t,.int .i64 m,.int .i64 ((i:Int)+(n:Int))]) (t:=201) (fr:=(0,0)) (by simpa using bY (w1.alloc (dE k t m ((i:Int)+(n:Int)))) _)) aA1 aAM aAY aAM aA0 (w1.heap.size+1+1) aAQ ?_));intro g cap w2 sB sA sM _;have EX:=((HA.out.later nJ (aA w1 (dE k t m ((i:Int)+(n:Int))))).later nJ (aA _ (dE k t m ((i:Int)+(n:Int)))));(have C6:t.size<=8000:=by have:=HT.out.2.2;rw[lQ] at this;omega);have tN:=zh (EX.added nJ (x:=⟨k,t,m,((i+n:Nat):Int)⟩) ⟨by rw[HC.out],C6⟩ rfl sB sA aCb);have sV:=zh (grown_belowB (aB HS.out.below (aB hb (aB (aA w1 (dE k t m ((i:Int)+(n:Int)))) (aA _ (dE k t m ((i:Int)+(n:Int))))))) sA (fun b hb=>(EX.lt b hb).1))
   have hcT:w2.cell? ⟨w1.heap.size,1,none⟩=some (.string t):=by
    refine sA.cell (aC (aA _ _) (v:=.string t) ?_) (fun e=>by have:=(HA.out.lt _ e.symm).2;simp at this);exact(cell_of_row _ w1.heap.size 1 _ _ _ (bY w1 _)).trans rfl
   clear sB sA sM EX C6 HA HN sK;go_wp2_with fail;go_roundw
   case rel=>
    refine⟨i+n+t.size,out++[⟨k,t,m,((i+n:Nat):Int)⟩],_,aAV,zh ⟨tN.out,sV.out,?_,aAM,?_,?_⟩⟩
    ·have h1:=HS.out.len;have h2:=HT.out.2.1;rw[List.length_append,List.length_singleton];omega
    ·obtain⟨f',hf'⟩:∃f',f=f'+1:=⟨f-1,aAM⟩;subst hf';refine⟨f',by rw[HF.out,HQ.out],?_⟩;have h2:=HT.out.2.1;omega
    intro x hx;rcases List.mem_append.1 hx with h|h
    ·exact HS.out.ok x h
    rw[List.mem_singleton.1 h];refine⟨HT.out.1,?_⟩;have:=HT.out.2.2;rw[lQ] at this;show t.size<=s.size;omega
   case measure=>have h2:=HT.out.2.1;simp[intOf];omega
abbrev tokVal(t:Tok):Value:=tokV t.kind t.text t.n t.pos
structure Prs where
 l:List Tok
 b:Nat
 o:Nat
 c:Nat
 pb:Nat
structure Prs.At (p:Prs) (w:World) (i:Nat):Prop where
 box:w.heap[p.pb]? =some (oBx27 (some ⟨p.b,p.o,none⟩) p.l.length p.c (i:Int))
 toks:∀k t,p.l[k]? =some t->(w.cell? ⟨p.b,p.o+k*4,none⟩=some (.int .i64 t.kind)/\w.cell? ⟨p.b,p.o+k*4+1,none⟩=some (.string t.text)/\w.cell? ⟨p.b,p.o+k*4+2,none⟩=some (.int .i64 t.n)/\w.cell? ⟨p.b,p.o+k*4+3,none⟩=some (.int .i64 t.pos))/\t.text.size<=8000
 ne:p.b≠p.pb
 lt:i<p.l.length
 len:p.l.length<=8001
 cap:p.l.length<=p.c/\p.c<=9223372036854775807
 last:∀k t,p.l[k]? =some t->t.kind≠3->k+1<p.l.length
 glob:dL w
 spc:Lib.TabIs Tryz.prog w "strings.asciiSpace" .u8 Lib.asciiSpaceTab
 gne:∀k,k<11->k≠p.pb
abbrev Prs.S(p:Prs):Nat->Prop:=fun k=>k=p.pb
section
variable {p:Prs} {w w':World} {i:Nat}
theorem dL.off{S:Nat->Prop}(h:dL w)(ho:Off S w w')(hS:∀k,k<11->¬S k):dL w':=by
 have hb:=h.big;refine⟨Nat.le_trans h.big ho.size,?_,?_,?_,fun i x hx=>ho.cell (hS _ aAM) (h.signs i x hx),fun i x hx=>ho.cell (hS _ aAM) (h.words i x hx)⟩
 ·obtain⟨m,hm⟩:=h.maxLen;exact⟨m,ho.cell (hS _ aAM) hm⟩
 ·have:Below 11 w w':=⟨ho.os,ho.tape,ho.output,ho.size,fun k hk=>ho.block k aAM (hS k hk)⟩;exact var?_below (g:=4) this aAN aAM h.pow10
 have:Below 11 w w':=⟨ho.os,ho.tape,ho.output,ho.size,fun k hk=>ho.block k aAM (hS k hk)⟩;exact var?_below (g:=3) this aAN aAM h.spc
theorem spc_off{S:Nat->Prop}(h:Lib.TabIs Tryz.prog w "strings.asciiSpace" .u8 Lib.asciiSpaceTab)(hb:11<=w.heap.size)(ho:Off S w w')(hS:∀k,k<11->¬S k):Lib.TabIs Tryz.prog w' "strings.asciiSpace" .u8 Lib.asciiSpaceTab:=by
 have:Below 11 w w':=⟨ho.os,ho.tape,ho.output,ho.size,fun k hk=>ho.block k aAM (hS k hk)⟩;exact var?_below (g:=3) this aAN aAM h
theorem Prs.At.blt(h:p.At w i):p.pb<w.heap.size:=(Array.getElem?_eq_some_iff.1 h.box).1
theorem Prs.At.tok(h:p.At w i):p.l[i]? =some (aJ p.l i):=by
 unfold aJ;rw[List.getD_eq_getElem?_getD,List.getElem?_eq_getElem h.lt];rfl
theorem Prs.At.later(h:p.At w i)(hb:Below w.heap.size w w'):p.At w' i:=
 ⟨(hb.block _ h.blt).trans h.box,fun k t hk=>by
  obtain⟨⟨a1,a2,a3,a4⟩,a5⟩:=h.toks k t hk
  exact⟨⟨aC hb a1,aC hb a2,aC hb a3,aC hb a4⟩,a5⟩,h.ne,h.lt,h.len,h.cap,h.last,h.glob.later hb,spc_off h.spc h.glob.big (Ba (S:=fun _=>False) hb) (fun _ _ h=>h),h.gne⟩
theorem Prs.At.off{S:Nat->Prop}(h:p.At w i)(ho:Off S w w')(h1:¬S p.pb)(h2:¬S p.b)(h3:∀k,k<11->¬S k):p.At w' i:=
 ⟨ho.heap h1 h.box,fun k t hk=>by
  obtain⟨⟨a1,a2,a3,a4⟩,a5⟩:=h.toks k t hk
  exact⟨⟨ho.cell h2 a1,ho.cell h2 a2,ho.cell h2 a3,ho.cell h2 a4⟩,a5⟩,h.ne,h.lt,h.len,h.cap,h.last,h.glob.off ho h3,spc_off h.spc h.glob.big ho h3,h.gne⟩
theorem Prs.At.box0(h:p.At w i):w.cell? ⟨p.pb,0,none⟩=some (.slice (some ⟨p.b,p.o,none⟩) p.l.length p.c):=by simp[World.cell?,h.box]
theorem Prs.At.box1(h:p.At w i):w.cell? ⟨p.pb,1,none⟩=some (.int .i64 (i:Int)):=by simp[World.cell?,h.box]
theorem Prs.At.froz(h:p.At w i):w.frozen? ⟨p.pb,1,none⟩=false:=by simp[World.frozen?,h.box]
theorem Prs.At.step(h:p.At w i)(hl:i+1<p.l.length):p.At (w.setCell ⟨p.pb,1,none⟩ (.int .i64 ((i:Int)+1))) (i+1)/\Off p.S w (w.setCell ⟨p.pb,1,none⟩ (.int .i64 ((i:Int)+1))):=by
 have ho:Off p.S w (w.setCell ⟨p.pb,1,none⟩ (.int .i64 ((i:Int)+1))):=Off.setCell w rfl;refine⟨⟨?_,fun k t hk=>?_,h.ne,hl,h.len,h.cap,h.last,h.glob.off ho (fun k hk=>h.gne k hk),spc_off h.spc h.glob.big ho (fun k hk=>h.gne k hk),h.gne⟩,ho⟩
 ·rw[aO h.box,Int.natCast_add,Int.natCast_one];rfl
 obtain⟨⟨a1,a2,a3,a4⟩,a5⟩:=h.toks k t hk;exact⟨⟨ho.cell h.ne a1,ho.cell h.ne a2,ho.cell h.ne a3,ho.cell h.ne a4⟩,a5⟩
end
abbrev faultE(x:Int×Int):Ending:=.panicked [{v:=.iface 205 (.agg #[.int .i64 x.1,.int .i64 x.2]),recovered:=false}]
def Ran{α:Type}(S:Nat->Prop)(w:World)(r:PR α)(V:α->Nat->Ending->World->Prop)(e:Ending)(w':World):Prop:=
 (∃x:Int×Int,r=.error x/\e=.panicked [{v:=.iface 205 (.agg #[.int .i64 x.1,.int .i64 x.2]),recovered:=false}]/\Off S w w')\/(∃a j,r=.ok (a,j)/\V a j e w'/\Off S w w')
theorem Ran.bad{α:Type}{S:Nat->Prop}{w w':World}{r:PR α}{V:α->Nat->Ending->World->Prop}{p e:Int}(hr:r=.error (p,e))(ho:Off S w w'):
  Ran S w r V (.panicked [{v:=.iface 205 (.agg #[.int .i64 p,.int .i64 e]),recovered:=false}]) w':=.inl ⟨(p,e),hr,rfl,ho⟩
theorem Ran.good{α:Type}{S:Nat->Prop}{w w':World}{r:PR α}{V:α->Nat->Ending->World->Prop}{a:α}{j:Nat}{e:Ending}(hr:r=.ok (a,j))(hv:V a j e w')(ho:Off S w w'):Ran S w r V e w':=.inr ⟨a,j,hr,hv,ho⟩
theorem dC(p:Prs)(w:World)(i:Nat)(h:p.At w i):Calls Tryz.prog 145 #[.pointer (some ⟨p.pb,0,none⟩)] w fun e w'=>e=.returned (oBx30 (aJ p.l i).kind (aJ p.l i).text (aJ p.l i).n (aJ p.l i).pos)/\Below w.heap.size w w':=by
 have h2:=h.later (aA w (dE 0 ⟨#[]⟩ 0 0));obtain⟨⟨c1,c2,c3,c4⟩,-⟩:=h.toks i _ h.tok;have b0:=h.box0;have b1:=h.box1;obtain⟨⟨d1,d2,d3,d4⟩,-⟩:=h2.toks i _ h2.tok;have e0:=h2.box0;have e1:=h2.box1;have sE:i<p.l.length:=h.lt;have xR:(0:Int)<=(i:Int)/\(i:Int)<(p.l.length:Int):=aAM;generalize aJ p.l i=t at c1 c2 c3 c4 d1 d2 d3 d4 ⊢;clear h h2;obtain⟨l,b,o,c,pb⟩:=p;simp only at *;go_enter Tryz.func145,Tryz.ntmps145
 go_wp2
 go_region
 go_wp2
 refine bodyPost_ret (v:=tokVal t) (by simp[results,Tryz.results145,go_sem]) rfl ⟨rfl,?_⟩;exact(aA _ _).drew
theorem tokF0(w:World)(a b c d:Value):(Instr.field 201 (.agg #[a,b,c,d]) 0).run Tryz.prog w=.ok a w:=aAN
theorem tokF1(w:World)(a b c d:Value):(Instr.field 201 (.agg #[a,b,c,d]) 1).run Tryz.prog w=.ok b w:=aAN
theorem tokF3(w:World)(a b c d:Value):(Instr.field 201 (.agg #[a,b,c,d]) 3).run Tryz.prog w=.ok d w:=aAN
theorem stop_any(p:Prs)(w:World)(i:Nat)(e:Int)(h:p.At w i):Calls Tryz.prog 192 #[.pointer (some ⟨p.pb,0,none⟩),.int .i64 e] w fun en w'=>en=faultE ((aJ p.l i).pos,e)/\Below w.heap.size w w':=by
 have HN:=zh (dC p w i h);clear h;generalize aJ p.l i=t at HN ⊢;obtain⟨l,b,o,c,pb⟩:=p;have F3:=tokF3;go_enter Tryz.func192,Tryz.ntmps192;go_wp2_with(go_at_call 145;refine HN.out.mono ?_;rintro e' w' ⟨rfl,hb⟩);exact⟨rfl,rfl,hb⟩
theorem rW(p:Prs)(w:World)(e:Int):Calls Tryz.prog 144 #[.pointer (some ⟨p.pb,0,none⟩),.bool true,.int .i64 e] w fun en w'=>en=.returned (.tuple #[])/\w=w':=by
 obtain⟨l,b,o,c,pb⟩:=p;go_enter Tryz.func144,Tryz.ntmps144;go_wp2_with fail;go_end0;exact⟨rfl,rfl⟩
theorem rX(p:Prs)(w:World)(i:Nat)(e:Int)(h:p.At w i):Calls Tryz.prog 144 #[.pointer (some ⟨p.pb,0,none⟩),.bool false,.int .i64 e] w fun en w'=>en=faultE ((aJ p.l i).pos,e)/\Below w.heap.size w w':=by
 have HN:=zh (stop_any p w i e h);clear h;generalize aJ p.l i=t at HN ⊢;obtain⟨l,b,o,c,pb⟩:=p;go_enter Tryz.func144,Tryz.ntmps144;go_wp2_with(go_at_call 192;refine HN.out.mono ?_;rintro e' w' ⟨rfl,hb⟩);exact⟨rfl,rfl,hb⟩
theorem fW(p:Prs)(w:World)(i:Nat)(b:Bool)(e:Int)(h:p.At w i):Calls Tryz.prog 144 #[.pointer (some ⟨p.pb,0,none⟩),.bool b,.int .i64 e] w fun en w'=>(b=true/\en=.returned (.tuple #[])/\w=w')\/(b=false/\en=faultE ((aJ p.l i).pos,e)/\Below w.heap.size w w'):=by
 cases b with
 |true=>exact(rW p w e).mono fun en w' h=>.inl ⟨rfl,h⟩
 |false=>exact(rX p w i e h).mono fun en w' h=>.inr ⟨rfl,h⟩
theorem gE(p:Prs)(w:World)(i:Nat)(s:bA)(h:p.At w i):Calls Tryz.prog 133 #[.pointer (some ⟨p.pb,0,none⟩),.string s] w fun e w'=>e=.returned (.bool (isP p.l i s))/\Below w.heap.size w w':=by
 have HA:=zh h;have HN:=zh (fun W(hW:p.At W i)=>dC p W i hW);have HI:Hid (isP p.l i s=(decide ((aJ p.l i).kind≠3)&&decide ((aJ p.l i).text=s))):=zh rfl;clear h;generalize isP p.l i s=q at HI ⊢;generalize aJ p.l i=t at HN HI;have F0:=tokF0;have F1:=tokF1;by_cases hk:t.kind=3
 ·go_enter Tryz.func133,Tryz.ntmps133;go_wp2_with(go_at_call 145;refine(HN.out w HA.out).mono ?_;rintro e w1 ⟨rfl,sF⟩);go_ret;exact⟨aF (by rw[HI.out,decide_eq_false (by simp[hk])];rfl),sF⟩
 have CG:(t.kind != 3)=true:=by rw[bne_iff_ne];exact hk
 go_enter Tryz.func133,Tryz.ntmps133;go_wp2_with(first|(go_at_call 145;refine(HN.out w HA.out).mono ?_;rintro e w1 ⟨rfl,sF⟩;have EO:=zh (HA.out.later sF))|(go_at_call 145;refine(HN.out w1 EO.out).mono ?_;rintro e w2 ⟨rfl,sD⟩));go_ret;exact⟨aF (by rw[HI.out,decide_eq_true hk,bI];rfl),aB sF sD⟩
end Go.Proofs.YtacgopankhpnbaaGreatDoor
namespace Go.Proofs.YtacgopankhpnbaaGreatDoor
open Go.RowKit
theorem YJ{p:Prop}(h:p:=by
 obtain⟨m,hm⟩:=hg.maxLen;have HW:=zh (word_any s w aAM);have HC:=zh (Tryz.strings_Contains mB ((bs [32]++s)++bs [32]) m w (by rw[reserved_size];decide) hm);have HN:Hid (aR s=(lO s&& !Lib.contains mB.data.toList ((bs [32]++s)++bs [32]).data.toList)):=zh rfl;clear hm hg;generalize Lib.contains mB.data.toList ((bs [32]++s)++bs [32]).data.toList=q at HC HN
 cases hw:lO s with
 |false=>
  rw[hw] at HW HN;clear hw;go_enter Tryz.func147,Tryz.ntmps147;go_wp2_with(go_at_call 182;refine HW.out.mono ?_;rintro e w1 ⟨rfl,rfl⟩);go_ret;exact⟨aF (by rw[HN.out];rfl),rfl⟩
 |true=>
  rw[hw] at HW HN;clear hw;go_enter Tryz.func147,Tryz.ntmps147;go_wp2_with(first|(go_at_call 182;refine HW.out.mono ?_;rintro e w1 ⟨rfl,rfl⟩)|(go_at_call 196;refine HC.out.mono ?_;rintro e w2 ⟨rfl,rfl⟩));go_ret
  exact⟨aF (by rw[HN.out];rfl),rfl⟩):p:=h
section
variable {p:Prs} {w:World} {i:Nat} {s:bA}
theorem isP_lt(h:p.At w i)(hq:isP p.l i s=true):i+1<p.l.length:=by
 refine h.last i _ h.tok ?_;unfold isP at hq;simp only[Bool.and_eq_true,decide_eq_true_eq] at hq;exact hq.1
theorem isNameP_lt(h:p.At w i)(hq:dM p.l i=true):i+1<p.l.length:=by
 refine h.last i _ h.tok ?_;unfold dM at hq;simp only[Bool.and_eq_true,decide_eq_true_eq] at hq;omega
theorem Prs.At.bound(h:p.At w i):(0:Int)<=(i:Int)/\(i:Int)<8001:=by have:=h.lt;have:=h.len;omega
end
theorem fV(p:Prs)(w:World)(i:Nat)(s:bA)(h:p.At w i)(hq:isP p.l i s=true):
  Calls Tryz.prog 141 #[.pointer (some ⟨p.pb,0,none⟩),.string s] w fun e w'=>e=.returned (.bool true)/\p.At w' (i+1)/\Off p.S w w':=by
 have HA:=zh h;have HI:=zh (gE p w i s h);rw[hq] at HI;have hl:=isP_lt h hq;have hb:=h.bound;clear h hq;go_enter Tryz.func141,Tryz.ntmps141;go_wp2_with(go_at_call 133;refine HI.out.mono ?_;rintro e w1 ⟨rfl,sF⟩;have EO:=zh (HA.out.later sF);have b1:=EO.out.box1;have f1:=EO.out.froz);go_ret;exact⟨rfl,(EO.out.step hl).1,(Ba sF).trans (EO.out.step hl).2⟩
theorem bF(p:Prs)(w:World)(i:Nat)(s:bA)(h:p.At w i)(hq:isP p.l i s=false):
  Calls Tryz.prog 141 #[.pointer (some ⟨p.pb,0,none⟩),.string s] w fun e w'=>e=.returned (.bool false)/\p.At w' i/\Off p.S w w':=by
 have HA:=zh h;have HI:=zh (gE p w i s h);rw[hq] at HI;clear h hq;go_enter Tryz.func141,Tryz.ntmps141;go_wp2_with(go_at_call 133;refine HI.out.mono ?_;rintro e w1 ⟨rfl,sF⟩);go_ret;exact⟨rfl,HA.out.later sF,Ba sF⟩
theorem oO(p:Prs)(w:World)(i:Nat)(s:bA)(h:p.At w i):
  Calls Tryz.prog 141 #[.pointer (some ⟨p.pb,0,none⟩),.string s] w fun e w'=>e=.returned (.bool (isP p.l i s))/\p.At w' (if isP p.l i s then i+1 else i)/\Off p.S w w':=by
 cases hq:isP p.l i s with
 |true=>exact fV p w i s h hq
 |false=>exact bF p w i s h hq
theorem dH(p:Prs)(w:World)(i:Nat)(s:bA)(h:p.At w i):
  Calls Tryz.prog 131 #[.pointer (some ⟨p.pb,0,none⟩),.string s] w (Ran p.S w (dP p.l i s) fun _ j e w'=>e=.returned (.tuple #[])/\p.At w' j):=by
 cases hq:isP p.l i s with
 |true=>
  have HW:Hid (dP p.l i s=.ok ((),i+1)):=zh (by unfold dP;rw[hq];rfl);have HH:=zh (fV p w i s h hq);clear h hq;go_enter Tryz.func131,Tryz.ntmps131;go_wp2_with(first|(go_at_call 141;refine HH.out.mono ?_;rintro e w1 ⟨rfl,sT,sJ⟩)|(go_at_call 144;refine(rW p _ _).mono ?_;rintro e w2 ⟨rfl,rfl⟩));go_end0;exact Ran.good HW.out ⟨rfl,sT⟩ sJ
 |false=>
  have HW:Hid (dP p.l i s=.error ((aJ p.l i).pos,11)):=zh (by unfold dP;rw[hq];rfl);have HH:=zh (bF p w i s h hq);clear h hq;go_enter Tryz.func131,Tryz.ntmps131;go_wp2_with(first|(go_at_call 141;refine HH.out.mono ?_;rintro e w1 ⟨rfl,sT,sJ⟩)|(go_at_call 144;refine(rX p _ i _ sT).mono ?_;rintro e w2 ⟨rfl,sD⟩));exact⟨rfl,Ran.bad HW.out (sJ.trans (Ba sD))⟩
theorem end_any(p:Prs)(w:World)(i:Nat)(fits:Bool)(s:bA)(h:p.At w i):
  Calls Tryz.prog 137 #[.pointer (some ⟨p.pb,0,none⟩),.bool fits,.string s] w (Ran p.S w (nW p.l i fits s) fun _ j e w'=>e=.returned (.tuple #[])/\p.At w' j):=by
 have HI:=zh (gE p w i s h);have HA:=zh h;have hb:=h.bound
 cases hq:isP p.l i s with
 |false=>
  have HW:Hid (nW p.l i fits s=.error ((aJ p.l i).pos,11)):=zh (by unfold nW;rw[hq];rfl);rw[hq] at HI;clear h hq;go_enter Tryz.func137,Tryz.ntmps137;go_wp2_with(first|(go_at_call 133;refine HI.out.mono ?_;rintro e w1 ⟨rfl,sF⟩;have sT:=zh (HA.out.later sF))|(go_at_call 144;refine(rX p _ i _ sT.out).mono ?_;rintro e w2 ⟨rfl,sD⟩));exact⟨rfl,Ran.bad HW.out (Ba (aB sF sD))⟩
 |true=>
  have hl:=isP_lt h hq
  cases fits with
  |false=>
   have HW:Hid (nW p.l i false s=.error ((aJ p.l i).pos,6)):=zh (by unfold nW;rw[hq];rfl);rw[hq] at HI;clear h hq;go_enter Tryz.func137,Tryz.ntmps137;go_wp2_with(first|(go_at_call 133;refine HI.out.mono ?_;rintro e w1 ⟨rfl,sF⟩;have sT:=zh (HA.out.later sF))|(go_at_call 144;refine(fW p _ i _ _ sT.out).mono ?_;rintro e w2 (⟨he,rfl,rfl⟩|⟨he,rfl,sD⟩)<;>first|(cases he;done)|skip));exact⟨rfl,Ran.bad HW.out (Ba (aB sF sD))⟩
  |true=>
   have HW:Hid (nW p.l i true s=.ok ((),i+1)):=zh (by unfold nW;rw[hq];rfl);rw[hq] at HI;clear h hq;go_enter Tryz.func137,Tryz.ntmps137;go_wp2_with(first|(go_at_call 133;refine HI.out.mono ?_;rintro e w1 ⟨rfl,sF⟩;have sT:=zh (HA.out.later sF);have b1:=sT.out.box1;have f1:=sT.out.froz)|(go_at_call 144;refine(rW p _ _).mono ?_;rintro e w2 ⟨rfl,rfl⟩));go_end0;exact Ran.good HW.out ⟨rfl,(sT.out.step hl).1⟩ ((Ba sF).trans (sT.out.step hl).2)
theorem reserved_size:mB.size=124:=aAN
theorem jU(s:bA)(w:World)(hs:s.size<=16000)(hg:dL w):
  Calls Tryz.prog 147 #[.string s] w fun e w'=>e=.returned (.bool (aR s))/\w=w':=by
 exact YJ
end Go.Proofs.YtacgopankhpnbaaGreatDoor
namespace Go.Proofs.YtacgopankhpnbaaGreatDoor
open Go.RowKit
theorem YX{p:Prop}(h:p:=by
 go_wp2_with(first|(go_at_call 185;refine HI.out.mono ?_;rintro e w1 ⟨rfl,sF⟩;have sT:=zh (HA.out.later sF))|(go_at_call 144;refine(rX p _ i _ sT.out).mono ?_;rintro e w2 ⟨rfl,sD⟩))
 exact⟨rfl,Ran.bad HW.out (Ba (aB sF sD))⟩):p:=h
theorem iX(p:Prs)(w:World)(i:Nat)(h:p.At w i):Calls Tryz.prog 185 #[.pointer (some ⟨p.pb,0,none⟩)] w fun e w'=>e=.returned (.bool (dM p.l i))/\Below w.heap.size w w':=by
 have HA:=zh h;have HN:=zh (fun W(hW:p.At W i)=>dC p W i hW);have tI:=(h.toks i _ h.tok).2;have HM:=zh (fun W(hW:p.At W i)=>jU (aJ p.l i).text W aAM hW.glob);have HI:Hid (dM p.l i=(decide ((aJ p.l i).kind=0)&&aR (aJ p.l i).text)):=zh rfl;clear h tI;generalize dM p.l i=q at HI ⊢;generalize aJ p.l i=t at HN HI HM;have F0:=tokF0;have F1:=tokF1;by_cases hk:t.kind=0
 ·go_enter Tryz.func185,Tryz.ntmps185;go_wp2_with(first|(go_at_call 145;refine(HN.out w HA.out).mono ?_;rintro e w1 ⟨rfl,sF⟩;have EO:=zh (HA.out.later sF))|(go_at_call 145;refine(HN.out w1 EO.out).mono ?_;rintro e w2 ⟨rfl,sD⟩;have EX:=zh (EO.out.later sD))|(go_at_call 147;refine(HM.out w2 EX.out).mono ?_;rintro e w3 ⟨rfl,rfl⟩));go_ret;exact⟨aF (by rw[HI.out,decide_eq_true hk];rfl),aB sF sD⟩
 have CG:(t.kind==0)=false:=by rw[beq_eq_false_iff_ne];exact hk
 go_enter Tryz.func185,Tryz.ntmps185;go_wp2_with(go_at_call 145;refine(HN.out w HA.out).mono ?_;rintro e w1 ⟨rfl,sF⟩);go_ret;exact⟨aF (by rw[HI.out,decide_eq_false hk];rfl),sF⟩
theorem Prs.At.stepped{p:Prs}{w:World}{i:Nat}(h:p.At w i)(hl:i+1<p.l.length):
  (w.setCell ⟨p.pb,1,none⟩ (.int .i64 ((i:Int)+1))).cell? ⟨p.pb,0,none⟩=some (.slice (some ⟨p.b,p.o,none⟩) p.l.length p.c)/\(w.setCell ⟨p.pb,1,none⟩ (.int .i64 ((i:Int)+1))).cell? ⟨p.pb,1,none⟩=some (.int .i64 ((i:Int)+1))/\
  (w.setCell ⟨p.pb,1,none⟩ (.int .i64 ((i:Int)+1))).cell? ⟨p.b,p.o+i*4+1,none⟩=some (.string (aJ p.l i).text):=by
 have h2:=(h.step hl).1;have ht:p.l[i]? =some (aJ p.l i):=h.tok;exact⟨h2.box0,by simpa using h2.box1,(h2.toks i _ ht).1.2.1⟩
theorem aE(w:World):Below w.heap.size w w.drew:=(Below.refl _ _).drew
theorem fR(p:Prs)(w:World)(i:Nat)(h:p.At w i):
  Calls Tryz.prog 132 #[.pointer (some ⟨p.pb,0,none⟩)] w (Ran p.S w (gN p.l i) fun a j e w'=>e=.returned (.string a)/\p.At w' j/\a.size<=8000):=by
 have HA:=zh h;have HI:=zh (iX p w i h);have hb:=h.bound;have tI:=zh (h.toks i _ h.tok).2
 cases hq:dM p.l i with
 |false=>
  have HW:Hid (gN p.l i=.error ((aJ p.l i).pos,11)):=zh aC8;rw[hq] at HI;clear h hq;go_enter Tryz.func132,Tryz.ntmps132;exact YX
 |true=>
  have hl:=isNameP_lt h hq;have HW:Hid (gN p.l i=.ok ((aJ p.l i).text,i+1)):=zh aC8;rw[hq] at HI;have xR:(0:Int)<=(i:Int)/\(i:Int)<(p.l.length:Int):=aAM;clear h hq;go_enter Tryz.func132,Tryz.ntmps132;go_wp2_with(first|(go_at_call 185;refine HI.out.mono ?_;rintro e w1 ⟨rfl,sF⟩;have sT:=zh (HA.out.later sF);have b1:=sT.out.box1;have f1:=sT.out.froz)|(go_at_call 144;refine(rW p _ _).mono ?_;rintro e w2 ⟨rfl,rfl⟩;obtain⟨d0,d1,d2⟩:=sT.out.stepped hl));go_region
  go_wp2_with fail;go_ret;exact Ran.good HW.out ⟨rfl,(sT.out.step hl).1.later (aE _),tI.out⟩ ((Ba sF).trans (sT.out.step hl).2).drew
mutual
def cJ(N:Nat->Prop)(w:World):Xp->List Value->Prop
 | .mk op n s m names args,cs=>∃vn va,cs=[.int .i64 op,.int .i64 n,.string s,.string m,vn,va]/\s.size<=8000/\m.size<=8000/\aL 1 cZ N w vn names/\
   ∃a c,va=.slice a args.length c/\args.length<=c/\c<=9223372036854775807/\(args≠[]->∃b o,a=some ⟨b,o,none⟩/\N b/\encXs N w b o args)
def encXs(N:Nat->Prop)(w:World)(b:Nat):Nat->List Xp->Prop
 |_,[]=>True
 |o,x::r=>(∃cs,cJ N w x cs/\cs.length=6/\∀j u,cs[j]? =some u->w.cell? ⟨b,o+j,none⟩=some u)/\encXs N w b (o+6) r
end
mutual
def jQ(N:Nat->Prop)(w:World):Ty->List Value->Prop
 | .mk kind fields,cs=>∃vf,cs=[.int .i64 kind,vf]/\∃a c,vf=.slice a fields.length c/\fields.length<=c/\c<=9223372036854775807/\(fields≠[]->∃b o,a=some ⟨b,o,none⟩/\N b/\encFs N w b o fields)
def encFs(N:Nat->Prop)(w:World)(b:Nat):Nat->List (bA×Ty)->Prop
 |_,[]=>True
 |o,(n,t)::r=>(w.cell? ⟨b,o,none⟩=some (.string n)/\n.size<=8000/\∃cs,jQ N w t cs/\∀j u,cs[j]? =some u->w.cell? ⟨b,o+1+j,none⟩=some u)/\encFs N w b (o+3) r
end
def gR(N:Nat->Prop)(w:World)(f:Fld)(cs:List Value):Prop:=∃ct,cs=.string f.1::ct/\f.1.size<=8000/\jQ N w f.2 ct
section
variable {N N':Nat->Prop} {w w':World}
theorem encXs_iff(b:Nat):∀(l:List Xp)(o:Nat),encXs N w b o l↔∀i x,l[i]? =some x->∃cs,cJ N w x cs/\cs.length=6/\∀j u,cs[j]? =some u->w.cell? ⟨b,o+i*6+j,none⟩=some u
 |[],o=>by simp[encXs]
 |x::r,o=>by
  unfold encXs;rw[encXs_iff b r (o+6)];constructor
  ·rintro⟨h1,h2⟩ i y hy
   cases i with
   |zero=>simp at hy;subst hy;simpa using h1
   |succ i=>
    obtain⟨cs,a1,a2,a3⟩:=h2 i y aDe;exact⟨cs,a1,a2,fun j u hu=>by have:=a3 j u hu;rw[show o+(i+1)*6+j=o+6+i*6+j by omega];exact this⟩
  intro h;refine⟨by simpa using h 0 x rfl,fun i y hy=>?_⟩;obtain⟨cs,a1,a2,a3⟩:=h (i+1) y aDe;exact⟨cs,a1,a2,fun j u hu=>by have:=a3 j u hu;rw[show o+6+i*6+j=o+(i+1)*6+j by omega];exact this⟩
theorem bG(op n:Int)(s m:bA)(names:List bA)(args:List Xp)(cs:List Value):cJ N w (.mk op n s m names args) cs↔
  ∃vn va,cs=[.int .i64 op,.int .i64 n,.string s,.string m,vn,va]/\s.size<=8000/\m.size<=8000/\aL 1 cZ N w vn names/\aL 6 cJ N w va args:=by
 unfold cJ aL;simp only[encXs_iff]
mutual
theorem encX_moves(hm:bU N w N' w'):∀(x:Xp)(cs:List Value),cJ N w x cs->cJ N' w' x cs
 | .mk op n s m names args,cs,h=>by
  unfold cJ at h ⊢;obtain⟨vn,va,hc,h1,h2,h3,a,c,h4,h5,h6,h7⟩:=h;refine⟨vn,va,hc,h1,h2,h3.moves aS hm aAO,a,c,h4,h5,h6,fun sC=>?_⟩;obtain⟨b,o,ha,hb,hx⟩:=h7 sC
  have sE:b<w.heap.size:=by
   cases args with
   |nil=>exact absurd rfl sC
   |cons x r=>
    unfold encXs at hx;obtain⟨⟨cs,-,hl,hj⟩,-⟩:=hx;exact cT (hj 0 (cs[0]' aAM) (List.getElem?_eq_getElem _))
  exact⟨b,o,ha,(hm b hb sE).1,encXs_moves hm b hb sE args o hx⟩
theorem encXs_moves(hm:bU N w N' w')(b:Nat)(hb:N b)(sE:b<w.heap.size):∀(l:List Xp)(o:Nat),encXs N w b o l->encXs N' w' b o l
 |[],_,_=>by unfold encXs;trivial
 |x::r,o,h=>by
  unfold encXs at h ⊢;obtain⟨⟨cs,h1,h2,h3⟩,h4⟩:=h;exact⟨⟨cs,encX_moves hm x cs h1,h2,fun j u hu=>(hm b hb sE).2 _ _ (h3 j u hu)⟩,encXs_moves hm b hb sE r (o+6) h4⟩
end
theorem aG:eW cJ:=fun _ _ _ _ x cs hm h=>encX_moves hm x cs h
theorem encT_len:∀{t:Ty}{cs:List Value},jQ N w t cs->cs.length=2
 | .mk _ _,_,h=>by unfold jQ at h;obtain⟨vf,rfl,-⟩:=h;rfl
theorem encFs_iff(b:Nat):∀(l:List Fld)(o:Nat),encFs N w b o l↔∀i x,l[i]? =some x->∃cs,gR N w x cs/\cs.length=3/\∀j u,cs[j]? =some u->w.cell? ⟨b,o+i*3+j,none⟩=some u
 |[],o=>by simp[encFs]
 |(n,t)::r,o=>by
  unfold encFs;rw[encFs_iff b r (o+3)];constructor
  ·rintro⟨⟨h0,hn,ct,h1,h3⟩,h2⟩ i y hy
   cases i with
   |zero=>
    simp at hy;subst hy;refine⟨.string n::ct,⟨ct,rfl,hn,h1⟩,by simp[encT_len h1],fun j u hu=>?_⟩
    cases j with
    |zero=>simp at hu;subst hu;simpa using h0
    |succ j=>have:=h3 j u (by simpa using hu);rw[show o+0*3+(j+1)=o+1+j by omega];exact this
   |succ i=>
    obtain⟨cs,a1,a2,a3⟩:=h2 i y aDe;exact⟨cs,a1,a2,fun j u hu=>by have:=a3 j u hu;rw[show o+(i+1)*3+j=o+3+i*3+j by omega];exact this⟩
  intro h;refine⟨?_,fun i y hy=>?_⟩
  ·obtain⟨cs,⟨ct,rfl,hn,h1⟩,-,a3⟩:=h 0 (n,t) rfl;refine⟨by simpa using a3 0 (.string n) rfl,hn,ct,h1,fun j u hu=>?_⟩;have:=a3 (j+1) u (by simpa using hu);rw[show o+1+j=o+0*3+(j+1) by omega];exact this
  obtain⟨cs,a1,a2,a3⟩:=h (i+1) y aDe;exact⟨cs,a1,a2,fun j u hu=>by have:=a3 j u hu;rw[show o+3+i*3+j=o+(i+1)*3+j by omega];exact this⟩
theorem iF(kind:Int)(fields:List Fld)(cs:List Value):jQ N w (.mk kind fields) cs↔∃vf,cs=[.int .i64 kind,vf]/\aL 3 gR N w vf fields:=by
 unfold jQ aL;simp only[encFs_iff]
mutual
theorem encT_moves(hm:bU N w N' w'):∀(t:Ty)(cs:List Value),jQ N w t cs->jQ N' w' t cs
 | .mk kind fields,cs,h=>by
  unfold jQ at h ⊢;obtain⟨vf,hc,a,c,h4,h5,h6,h7⟩:=h;refine⟨vf,hc,a,c,h4,h5,h6,fun sC=>?_⟩;obtain⟨b,o,ha,hb,hx⟩:=h7 sC
  have sE:b<w.heap.size:=by
   cases fields with
   |nil=>exact absurd rfl sC
   |cons x r=>
    obtain⟨n,t⟩:=x;unfold encFs at hx;exact cT hx.1.1
  exact⟨b,o,ha,(hm b hb sE).1,encFs_moves hm b hb sE fields o hx⟩
theorem encFs_moves(hm:bU N w N' w')(b:Nat)(hb:N b)(sE:b<w.heap.size):∀(l:List (bA×Ty))(o:Nat),encFs N w b o l->encFs N' w' b o l
 |[],_,_=>by unfold encFs;trivial
 |(n,t)::r,o,h=>by
  unfold encFs at h ⊢;obtain⟨⟨h0,hn,cs,h1,h3⟩,h4⟩:=h;exact⟨⟨(hm b hb sE).2 _ _ h0,hn,cs,encT_moves hm t cs h1,fun j u hu=>(hm b hb sE).2 _ _ (h3 j u hu)⟩,encFs_moves hm b hb sE r (o+3) h4⟩
end
theorem fO:eW jQ:=fun _ _ _ _ x cs hm h=>encT_moves hm x cs h
theorem bB:eW gR:=fun _ _ _ _ x cs hm h=>by
 obtain⟨ct,h1,h2,h3⟩:=h;exact⟨ct,h1,h2,encT_moves hm _ _ h3⟩
end
theorem aL.of_block{α:Type}{k:Nat}{enc:(Nat->Prop)->World->α->List Value->Prop}{N:Nat->Prop}{w:World}{b:Nat}{css:List (List Value)}{l:List α}{T:TypeId}{fr:Nat×Nat}{n:Nat}(hb:w.heap[b]? =some (.cells css.flatten.toArray T fr))(hN:N b)
  (hl:css.length=l.length) (hk:∀c,c∈css->c.length=k) (he:∀(i:Nat)(x:α)(c:List Value),l[i]? =some x->css[i]? =some c->enc N w x c) (hn:l.length=n) (tC:n<=9223372036854775807):
  aL k enc N w (.slice (some ⟨b,0,none⟩) n n) l:=by
 subst hn;refine⟨_,_,rfl,Nat.le_refl _,tC,fun _=>⟨b,0,rfl,hN,fun i x hx=>?_⟩⟩;have hi:=(Yb.1 hx).1;obtain⟨c,hc⟩:∃c,css[i]? =some c:=⟨_,List.getElem?_eq_getElem (by rw[hl];exact hi)⟩;have hck:=hk c (List.mem_of_getElem? hc);refine⟨c,he i x c hx hc,hck,fun j u hu=>?_⟩;have hj:j<k:=by rw[<-hck];exact(Yb.1 hu).1
 have hf:=flatten_at css hk i c j hc hj;rw[hu] at hf;have h2:css.flatten.toArray[i*k+j]? =some u:=by simpa using hf
 rw[Nat.zero_add];simp[World.cell?,hb,h2]
theorem qV:∀(l:List Fld)(k:Nat)(x:Fld),l[k]? =some x->dD (l.take (k+1))=max (dD (l.take k)) (cI x.2)
 |[],k,x,h=>aBF
 |y::l,0,x,h=>by
  simp at h;subst h;obtain⟨n,t⟩:=y;simp[dD]
 |y::l,k+1,x,h=>by
  have:=qV l k x aBn;obtain⟨n,t⟩:=y;simp only[List.take_succ_cons,dD,this,Nat.max_assoc]
theorem levelsFs_mem:∀(l:List Fld)(x:Fld),x∈l->cI x.2<=dD l
 |[],x,h=>aBx
 |(n,t)::l,x,h=>by
  unfold dD;rcases List.mem_cons.1 h with rfl|h
  ·exact Nat.le_max_left _ _
  exact Nat.le_trans (levelsFs_mem l x h) (Nat.le_max_right _ _)
theorem depthXs_take:∀(l:List Xp)(k:Nat)(x:Xp),l[k]? =some x->eU (l.take (k+1))=max (eU (l.take k)) (cP x)
 |[],k,x,h=>aBF
 |y::l,0,x,h=>by simp at h;subst h;simp[eU]
 |y::l,k+1,x,h=>by
  have:=depthXs_take l k x aBn;simp only[List.take_succ_cons,eU,this,Nat.max_assoc]
theorem depthXs_mem:∀(l:List Xp)(x:Xp),x∈l->cP x<=eU l
 |[],x,h=>aBx
 |y::l,x,h=>by
  unfold eU;rcases List.mem_cons.1 h with rfl|h
  ·exact Nat.le_max_left _ _
  exact Nat.le_trans (depthXs_mem l x h) (Nat.le_max_right _ _)
end Go.Proofs.YtacgopankhpnbaaGreatDoor
namespace Go.Proofs.YtacgopankhpnbaaGreatDoor
open Go.RowKit
theorem aAc{p:Prop}(h:p:=by
 go_roundw;case rel=>exact⟨q+1,aAM,aAV,by rw[HT.out];go_num,zh (aB HB.out (aB (aA _ _) sF))⟩
 case measure=>simp[intOf];omega):p:=h
theorem levelsFs_le:∀(l:List Fld)(k:Nat),dD (l.take k)<=dD l
 |[],k=>aAQ
 |x::l,0=>by simp[dD]
 |(n,t)::l,k+1=>by
  have:=levelsFs_le l k;simp only[List.take_succ_cons,dD];omega
theorem depthXs_le:∀(l:List Xp)(k:Nat),eU (l.take k)<=eU l
 |[],k=>aAQ
 |x::l,0=>by simp[eU]
 |x::l,k+1=>by
  have:=depthXs_le l k;simp only[List.take_succ_cons,eU];omega
theorem levels_any:∀(d:Nat)(t:Ty)(N:Nat->Prop)(k:Int)(vf:Value)(w:World),cI t<=d->cI t<=9000000000000000000->jQ N w t [.int .i64 k,vf]->
  Calls Tryz.prog 138 #[.agg #[.int .i64 k,vf]] w fun e w'=>e=.returned (.int .i64 (cI t:Nat))/\Below w.heap.size w w'
 |0,t,_,_,_,_,hd,_,_=>by cases t;simp[cI] at hd
 |d+1,.mk kind fields,N,k,vf,w,hd,tC,he=>by
  rw[iF] at he;obtain⟨vf',hv,hr⟩:=he;cases hv;have zI:cI (.mk kind fields)=dD fields+1:=by rw[cI]
  rw[zI] at hd tC ⊢;clear zI;have XH:=zh (fun t N k vf w h1 h2 h3=>levels_any d t N k vf w h1 h2 h3);rcases hr.cases aAO with⟨rfl,a,c,rfl⟩|⟨b,o,c,rfl,h0,h1,h2,hb,hN,hc⟩
  ·clear hr;go_enter Tryz.func138,Tryz.ntmps138;go_wp2_with fail;(go_loop [3,9] (fun m i=>m=.int .i64 0/\i=.int .i64 0) (fun _ _=>0));case atStart=>exact⟨rfl,rfl⟩
   case round=>
    obtain⟨rfl,rfl⟩:=hrel;exact ZI
  have HC:=zh hc;clear hc hr;go_enter Tryz.func138,Tryz.ntmps138;go_wp2_with fail;go_loopw [3,9] (fun m i wr=>∃q:Nat,q<=fields.length/\i=.int .i64 q/\m=.int .i64 (dD (fields.take q):Nat)/\Hid (Below w.heap.size w wr)) (fun _ i _=>fields.length-(intOf i).toNat)
  case atStart=>exact⟨0,Nat.zero_le _,rfl,by simp[dD],zh (aA _ _)⟩
  case round=>
   obtain⟨q,hq,rfl,rfl,HB⟩:=hrel;(rename World=>wr);by_cases sE:q<fields.length
   ·obtain⟨x,hx,vW⟩:=getElem?_of_lt sE;obtain⟨cs,⟨ct,rfl,hn,wB⟩,-,hj⟩:=HC.out q x hx;have hm:=levelsFs_mem fields x vW;have HT:Hid (dD (fields.take (q+1))=max (dD (fields.take q)) (cI x.2)):=zh (qV fields q x hx);obtain⟨nm,ty⟩:=x
    cases ty with
    |mk k2 f2=>
     have yE:=wB;rw[iF] at yE;obtain⟨vf2,rfl,yB⟩:=yE;obtain⟨a2,cc2,rfl,-⟩:=yB;have c0:wr.cell? ⟨b,o+q*3,none⟩=some (.string nm):=aC HB.out (hj 0 _ rfl);have c1:=aC HB.out (hj 1 _ rfl);have c2:=aC HB.out (hj 2 _ rfl);have HE:=zh (fun W(h:Below w.heap.size w W)=>fO _ _ _ _ _ _ (bU.later h) wB);have HL:=zh (fun W h=>XH.out (.mk k2 f2) N k2 _ W (by simp only at hm;omega) (by simp only at hm;omega) (HE.out W h));simp only at HT;have JF:=HT.out;have U7:dD (fields.take (q+1))<=dD fields:=levelsFs_le fields _;clear hj hx vW wB hm hn;generalize cI (.mk k2 f2)=lv at HL HT JF;generalize dD (fields.take q)=l0 at HT JF ⊢;go_wp2_with(go_at_call 138;refine(HL.out _ (aB HB.out (aA _ _))).mono ?_;rintro e w1 ⟨rfl,sF⟩);exact aAc
   have AR:q=fields.length:=aAM;subst AR;rw[List.take_length];generalize U7:dD fields=lv at tC ⊢;have HV:=zh U7;clear U7;go_wp2_with fail;go_ret;exact⟨fU (by have:=HV.out;omega),HB.out⟩
theorem depth_any:∀(d:Nat)(x:Xp)(N:Nat->Prop)(op n:Int)(s m:bA)(vn va:Value)(w:World),cP x<=d->cP x<=9000000000000000000->cJ N w x [.int .i64 op,.int .i64 n,.string s,.string m,vn,va]->
  Calls Tryz.prog 189 #[nS op n s m vn va] w fun e w'=>e=.returned (.int .i64 (cP x:Nat))/\Below w.heap.size w w'
 |0,x,_,_,_,_,_,_,_,_,hd,_,_=>by cases x;simp[cP] at hd
 |d+1,.mk op n s m names args,N,op',n',s',m',vn,va,w,hd,tC,he=>by
  rw[bG] at he;obtain⟨vn',va',hv,-,-,LL,hr⟩:=he;cases hv;have zI:cP (.mk op n s m names args)=eU args+1:=by rw[cP]
  rw[zI] at hd tC ⊢;clear zI;have XH:=zh (fun x N op n s m vn va w h1 h2 h3=>depth_any d x N op n s m vn va w h1 h2 h3);obtain⟨an,cn,rfl,-⟩:=LL;rcases hr.cases aAO with⟨rfl,a,c,rfl⟩|⟨b,o,c,rfl,h0,h1,h2,hb,hN,hc⟩
  ·clear hr;go_enter Tryz.func189,Tryz.ntmps189;go_wp2_with fail;(go_loop [3,9] (fun m i=>m=.int .i64 0/\i=.int .i64 0) (fun _ _=>0));case atStart=>exact⟨rfl,rfl⟩
   case round=>
    obtain⟨rfl,rfl⟩:=hrel;exact ZI
  have HC:=zh hc;clear hc hr;go_enter Tryz.func189,Tryz.ntmps189;go_wp2_with fail;go_loopw [3,9] (fun m i wr=>∃q:Nat,q<=args.length/\i=.int .i64 q/\m=.int .i64 (eU (args.take q):Nat)/\Hid (Below w.heap.size w wr)) (fun _ i _=>args.length-(intOf i).toNat)
  case atStart=>exact⟨0,Nat.zero_le _,rfl,by simp[eU],zh (aA _ _)⟩
  case round=>
   obtain⟨q,hq,rfl,rfl,HB⟩:=hrel;(rename World=>wr);by_cases sE:q<args.length
   ·obtain⟨x,hx,vW⟩:=getElem?_of_lt sE;obtain⟨cs,wB,-,hj⟩:=HC.out q x hx;have hm:=depthXs_mem args x vW;have HT:Hid (eU (args.take (q+1))=max (eU (args.take q)) (cP x)):=zh (depthXs_take args q x hx)
    cases x with
    |mk xI n2 s2 m2 names2 args2=>
     have yE:=wB;rw[bG] at yE;obtain⟨J2,va2,rfl,-,-,yC,yB⟩:=yE;obtain⟨a1,T5,rfl,-⟩:=yC;obtain⟨a2,cc2,rfl,-⟩:=yB;have c0:wr.cell? ⟨b,o+q*6,none⟩=some (.int .i64 xI):=aC HB.out (hj 0 _ rfl);have c1:=aC HB.out (hj 1 _ rfl);have c2:=aC HB.out (hj 2 _ rfl);have c3:=aC HB.out (hj 3 _ rfl);have c4:=aC HB.out (hj 4 _ rfl);have c5:=aC HB.out (hj 5 _ rfl);have HE:=zh (fun W(h:Below w.heap.size w W)=>aG _ _ _ _ _ _ (bU.later h) wB);have HL:=zh (fun W h=>XH.out (.mk xI n2 s2 m2 names2 args2) N xI n2 s2 m2 _ _ W aAM aAM (HE.out W h));have JF:=HT.out;have U7:eU (args.take (q+1))<=eU args:=depthXs_le args _;clear hj hx vW wB hm;generalize cP (.mk xI n2 s2 m2 names2 args2)=lv at HL HT JF;generalize eU (args.take q)=l0 at HT JF ⊢;go_wp2_with(go_at_call 189;refine(HL.out _ (aB HB.out (aA _ _))).mono ?_;rintro e w1 ⟨rfl,sF⟩);exact aAc
   have AR:q=args.length:=aAM;subst AR;rw[List.take_length];generalize U7:eU args=lv at tC ⊢;have HV:=zh U7;clear U7;go_wp2_with fail;go_ret;exact⟨fU (by have:=HV.out;omega),HB.out⟩
theorem rF(p:Prs)(w:World)(i a b:Nat)(h:p.At w i):
  Calls Tryz.prog 134 #[.pointer (some ⟨p.pb,0,none⟩),.int .i64 (a:Int),.int .i64 (b:Int)] w (Ran p.S w (iM p.l i a b) fun _ j e w'=>e=.returned (.tuple #[])/\p.At w' j):=by
 have HA:=zh h;have HR:Hid (iM p.l i a b=if a<b then .ok ((),i) else .error ((aJ p.l i).pos,6)):=zh rfl;clear h;by_cases sE:(a:Int)<(b:Int)
 ·have zR:decide ((a:Int)<(b:Int))=true:=decide_eq_true sE;go_enter Tryz.func134,Tryz.ntmps134;go_wp2_with(go_at_call 144;refine(fW p _ i _ _ HA.out).mono ?_;rintro e w2 (⟨he,rfl,rfl⟩|⟨he,rfl,sD⟩)<;>first|(cases he;done)|skip);go_end0;exact Ran.good (by rw[HR.out,if_pos aAM]) ⟨rfl,HA.out⟩ (Off.refl _ _)
 have zR:decide ((a:Int)<(b:Int))=false:=decide_eq_false sE;go_enter Tryz.func134,Tryz.ntmps134;go_wp2_with(go_at_call 144;refine(fW p _ i _ _ HA.out).mono ?_;rintro e w2 (⟨he,rfl,rfl⟩|⟨he,rfl,sD⟩)<;>first|(cases he;done)|skip);exact⟨rfl,Ran.bad (by rw[HR.out,if_neg aAM]) (Ba sD)⟩
theorem run_gtr_str(t:TypeId)(a b:bA)(w:World):(binOp .gtr t (.string a) (.string b)).run Tryz.prog w=.ok (.bool !(Op.bytesLess a.toList b.toList||a.toList==b.toList)) w:=by
 simp[binOp,Op.stringOp]
theorem oT(p:Prs)(w:World)(i:Nat)(than:bA)(any:Bool)(h:p.At w i):
  Calls Tryz.prog 186 #[.pointer (some ⟨p.pb,0,none⟩),.string than,.bool any] w (Ran p.S w (gQ p.l i than any) fun a j e w'=>e=.returned (.string a)/\p.At w' j/\a.size<=8000):=by
 have HA:=zh h;have HI:=zh (iX p w i h);have HN:=zh (fun W(hW:p.At W i)=>dC p W i hW);have HM:=zh (fun W(hW:p.At W i)=>fR p W i hW);have F1:=tokF1;have hG:=run_gtr_str
 cases hq:dM p.l i with
 |false=>
  have HW:Hid (gQ p.l i than any=.error ((aJ p.l i).pos,11)):=zh (by unfold gQ;rw[hq];rfl);rw[hq] at HI;clear h hq;go_enter Tryz.func186,Tryz.ntmps186;exact YX
 |true=>
  have DL:Hid (gN p.l i=.ok ((aJ p.l i).text,i+1)):=zh aC8;have HW:Hid (gQ p.l i than any=if any&&decide ((aJ p.l i).text=than) then .error ((aJ p.l i).pos,5) else if any&& !gtB (aJ p.l i).text than then .error ((aJ p.l i).pos,12) else .ok ((aJ p.l i).text,i+1)):=zh (by unfold gQ;rw[hq];rfl);rw[hq] at HI;clear h hq;generalize ht:aJ p.l i=t at HN DL HW;have FY:=zh ht;clear ht
  cases any with
  |false=>
   go_enter Tryz.func186,Tryz.ntmps186;go_wp2_with(first|(go_at_call 185;refine HI.out.mono ?_;rintro e w1 ⟨rfl,sF⟩;have sT:=zh (HA.out.later sF))|(go_at_call 144;refine(rW p _ _).mono ?_;rintro e w2 ⟨rfl,rfl⟩)|(go_at_call 132;refine(HM.out _ sT.out).mono ?_;rintro e w3 (⟨x,hx,rfl,ho⟩|⟨a,j,hx,⟨rfl,uY,tI⟩,ho⟩)))
   ·rw[DL.out] at hx;cases hx
   rw[DL.out] at hx;cases hx;go_ret;exact Ran.good (by rw[HW.out];rfl) ⟨rfl,uY,tI⟩ ((Ba sF).trans ho)
  |true=>
   go_enter Tryz.func186,Tryz.ntmps186;go_wp2_with(first|(go_at_call 185;refine HI.out.mono ?_;rintro e w1 ⟨rfl,sF⟩;have sT:=zh (HA.out.later sF))|(go_at_call 145;refine(HN.out w2 tD.out).mono ?_;rintro e w3 ⟨rfl,uA⟩;have uY:=zh (tD.out.later uA))|(go_at_call 145;refine(HN.out w1 sT.out).mono ?_;rintro e w2 ⟨rfl,sD⟩;have tD:=zh (sT.out.later sD))|(go_at_call 132;refine(HM.out w3 uY.out).mono ?_;rintro e w4 (⟨x,hx,rfl,ho⟩|⟨a,j,hx,⟨rfl,uR,tI⟩,ho⟩))|(go_at_call 144;refine(fW p w3 i _ _ uY.out).mono ?_;rintro e w5 (⟨TQ,rfl,rfl⟩|⟨TQ,rfl,hb5⟩))|(go_at_call 144;refine(fW p w2 i _ _ tD.out).mono ?_;rintro e w5 (⟨BS,rfl,rfl⟩|⟨BS,rfl,hb5⟩))|(go_at_call 144;refine(fW p w1 i _ _ sT.out).mono ?_;rintro e w5 (⟨FF,rfl,rfl⟩|⟨FF,rfl,hb5⟩)<;>first|(cases FF;done)|skip))
   ·rw[DL.out] at hx;cases hx
   ·rw[DL.out] at hx;cases hx;(have e2:(t.text.toList==than.toList)=false:=by simpa using BS);(have e3:gtB t.text than=true:=by unfold gtB;rw[e2];simpa using TQ);go_wp2_with fail;go_ret;exact Ran.good (by rw[HW.out,e3,<-bI,e2];rfl) ⟨rfl,uR,tI⟩ ((Ba (aB sF (aB sD uA))).trans ho)
   ·(have e2:(t.text.toList==than.toList)=false:=by simpa using BS);(have e3:gtB t.text than=false:=by unfold gtB;rw[e2];simpa using TQ);exact⟨rfl,Ran.bad (by rw[FY.out,HW.out,e3,<-bI,e2];rfl) (Ba (aB sF (aB sD (aB uA hb5))))⟩
   (have e2:(t.text.toList==than.toList)=true:=by simpa using BS);exact⟨rfl,Ran.bad (by rw[FY.out,HW.out,<-bI,e2];rfl) (Ba (aB sF (aB sD hb5)))⟩
def eO(known:bA->Bool)(x:bA):Option Bool:=if known x then some true else none
theorem setOf_getD(known:bA->Bool)(x:bA):(eO known x).getD false=known x:=by unfold eO;cases known x<;>rfl
theorem setOf_put(known:bA->Bool)(a:bA):(fun z=>if z=a then some true else eO known z)=eO (fun z=>decide (z=a)||known z):=by
 funext z;unfold eO;by_cases h:z=a<;>simp[h]
abbrev Prs.S2(p:Prs)(km:Nat):Nat->Prop:=fun k=>k=p.pb\/k=km
theorem Off.mono{S S':Nat->Prop}{w w':World}(h:Off S w w')(hS:∀k,S k->S' k):Off S' w w':=⟨h.os,h.tape,h.output,h.size,fun k hk hn=>h.block k hk (fun hs=>hn (hS k hs))⟩
theorem off_map{w w':World}{km:Nat}{S:Nat->Prop}(hS:S km)(hg:w.grownBy w' (some km)):Off S w w':=Off.of_only (iJ hg) hS
section
variable {p:Prs} {w w':World} {i km n:Nat} {known:bA->Bool}
theorem Prs.At.nemap(h:p.At w i)(hm:dG w km):km≠p.pb/\km≠p.b:=by
 have h0:=h.lt;exact⟨fun e=>hm.ne h.box0 e.symm,fun e=>hm.ne (h.toks i _ h.tok).1.1 e.symm⟩
theorem Prs.At.grown(h:p.At w i)(hm:dG w km)(hk:11<=km)(hg:w.grownBy w' (some km)):p.At w' i:=by
 have hn:=h.nemap hm;exact h.off (S:=fun k=>k=km) (off_map rfl hg) (fun e=>hn.1 e.symm) (fun e=>hn.2 e.symm) (fun k CG e=>aAM)
theorem map_off{P:Program}{kt et:TypeId}{κ ν:Type}{K:KeyC P kt κ}{V:ValC P et ν}{m:κ->Option ν}(h:p.At w i)(hm:aX K V w km n m)(ho:Off p.S w w'):aX K V w' km n m:=
 hm.of_block (ho.block km hm.lt (h.nemap (dG.of hm)).1)
end
theorem oV(p:Prs)(w:World)(i km n:Nat)(known:bA->Bool)(h:p.At w i)(hm:aX eQ dS w km n (eO known))(hk:11<=km)(hn:n<1000000):
  Calls Tryz.prog 135 #[.pointer (some ⟨p.pb,0,none⟩),.map (some km)] w (Ran (p.S2 km) w (iY p.l i known) fun a j e w'=>e=.returned (.string a)/\p.At w' j/\aX eQ dS w' km (n+1) (eO fun z=>decide (z=a)||known z)/\a.size<=8000):=by
 have HA:=zh h;have XD:=zh hm;have HI:=zh (iX p w i h);have HN:=zh (fun W(hW:p.At W i)=>dC p W i hW);have HM:=zh (fun W(hW:p.At W i)=>fR p W i hW);have tI:=(h.toks i _ h.tok).2;have F1:=tokF1;have hS:∀k,p.S k->p.S2 km k:=fun k h=>.inl h
 cases hq:dM p.l i with
 |false=>
  have HW:Hid (iY p.l i known=.error ((aJ p.l i).pos,11)):=zh (by unfold iY;rw[hq];rfl);rw[hq] at HI;clear h hq hm tI;go_enter Tryz.func135,Tryz.ntmps135;exact YX
 |true=>
  have DL:Hid (gN p.l i=.ok ((aJ p.l i).text,i+1)):=zh aC8;have HW:Hid (iY p.l i known=if known (aJ p.l i).text then .error ((aJ p.l i).pos,5) else .ok ((aJ p.l i).text,i+1)):=zh (by unfold iY;rw[hq];unfold lF;rfl);rw[hq] at HI;clear h hq hm;generalize ht:aJ p.l i=t at HN DL HW tI;have FY:=zh ht;clear ht;have s1:t.text.size<=140737488355328:=aAM;have HL:=zh (setOf_getD known t.text);have HP:=zh (setOf_put known t.text);generalize C8:known t.text=q at HL HW;clear C8;go_enter Tryz.func135,Tryz.ntmps135;go_wp2_with(first|(go_at_call 185;refine HI.out.mono ?_;rintro e w1 ⟨rfl,sF⟩;have sT:=zh (HA.out.later sF);have zQ:=zh (XD.out.later sF))|(go_at_call 145;refine(HN.out w2 tD.out).mono ?_;rintro e w3 ⟨rfl,uA⟩;have uY:=zh (tD.out.later uA);have Q0:=zh (TB.out.later uA))|(go_at_call 145;refine(HN.out w1 sT.out).mono ?_;rintro e w2 ⟨rfl,sD⟩;have tD:=zh (sT.out.later sD);have TB:=zh (zQ.out.later sD))|(go_at_call 132;refine(HM.out w4 uR.out).mono ?_;rintro e w5 (⟨x,hx,rfl,ho⟩|⟨a,j,hx,⟨rfl,vK,hsz5⟩,ho⟩))|(go_at_call 144;refine(fW p w2 i _ _ tD.out).mono ?_;rintro e w5 (⟨BS,rfl,rfl⟩|⟨BS,rfl,hb5⟩))|(go_at_call 144;refine(fW p w1 i _ _ sT.out).mono ?_;rintro e w5 (⟨FF,rfl,rfl⟩|⟨FF,rfl,hb5⟩)<;>first|(cases FF;done)|skip)|(at_lookup;refine bR TB.out s1 HL.out rfl rfl rfl rfl ?_)|(at_mapUpdate;refine lE Q0.out aAM s1 rfl rfl rfl rfl rfl ?_;intro w4 hm4 VK;have uR:=zh (uY.out.grown (dG.of Q0.out) hk VK);have hg4':=zh VK;have hm4':=zh (hm4.ext (fun z=>congrFun HP.out z));clear hm4 VK))
  ·rw[DL.out] at hx;cases hx
  ·rw[DL.out] at hx;cases hx;go_ret;(have hq:q=false:=by cases q<;>simp_all);exact Ran.good (by rw[HW.out,hq];rfl) ⟨rfl,vK,map_off uR.out hm4'.out ho,hsz5⟩ ((Ba (aB sF (aB sD uA))).trans ((off_map (.inr rfl) hg4'.out).trans (ho.mono hS)))
  have hq:q=true:=by cases q<;>simp_all
  exact⟨rfl,Ran.bad (by rw[FY.out,HW.out,hq];rfl) (Ba (aB sF (aB sD hb5)))⟩
end Go.Proofs.YtacgopankhpnbaaGreatDoor
namespace Go.Proofs.YtacgopankhpnbaaGreatDoor
open Go.RowKit
theorem YP{p:Prop}(h:p:=by
 go_enter Tryz.func187,Tryz.ntmps187;go_wp2_with(first|(go_at_call 138;refine(HL.out _ (aA _ _)).mono ?_;rintro e w1 ⟨rfl,sF⟩;have IC:=zh (aB (aA _ _) sF);have sT:=zh (HA.out.later IC.out))|(go_at_call 133;refine(HI.out w1 sT.out).mono ?_;rintro e w2 ⟨rfl,sD⟩;have tD:=zh (sT.out.later sD))|(go_at_call 137;refine(HE.out w2 _ _ tD.out).mono ?_;rintro e w3 (⟨x,hx,rfl,ho⟩|⟨⟨⟩,j,hx,⟨rfl,uY⟩,ho⟩)))
 ·exact⟨rfl,Ran.bad (by rw[HM.out,<-HD.out,hx];rfl) ((Ba (aB IC.out sD)).trans ho)⟩
 go_ret
 exact Ran.good (by rw[HM.out,<-HD.out,hx];rfl) ⟨rfl,uY⟩ ((Ba (aB IC.out sD)).trans ho)):p:=h
abbrev effectB:bA:=bs [102,105,108,101,115,32,110,101,116,32,99,108,111,99,107,32,115,101,99,114,101,116,115]
abbrev bV:List bA:=[kFiles,kNet,kClock,kSecrets]
theorem effFields:(Lib.fields effectB.data.toList).map (fun l=>Value.string ⟨l.toArray⟩)=bV.map Value.string:=aBm
theorem effLen:(Lib.fields effectB.data.toList).length=4:=aBm
theorem effAscii:∀(j:Nat)b,effectB.data.toList[j]? =some b->b.toNat<128:=by
 have h:effectB.data.toList.all (fun b=>decide (b.toNat<128))=true:=aBm;intro j b hb;have:=List.all_eq_true.1 h b (List.mem_of_getElem? hb);simpa using this
theorem bitOf_idx(s:bA):(Lib.idxOfS bV s=0/\dJ s=1)\/(Lib.idxOfS bV s=1/\dJ s=2)\/(Lib.idxOfS bV s=2/\dJ s=4)\/(Lib.idxOfS bV s=3/\dJ s=8)\/(Lib.idxOfS bV s= -1/\dJ s=0):=by
 unfold Lib.idxOfS dJ;by_cases h1:s=kFiles
 ·left;subst h1;exact⟨rfl,rfl⟩
 by_cases h2:s=kNet
 ·right;left;subst h2;exact⟨rfl,rfl⟩
 by_cases h3:s=kClock
 ·right;right;left;subst h3;exact⟨rfl,rfl⟩
 by_cases h4:s=kSecrets
 ·right;right;right;left;subst h4;exact⟨rfl,rfl⟩
 right;right;right;right;refine⟨?_,by rw[if_neg h1,if_neg h2,if_neg h3,if_neg h4]⟩;simp only[Lib.idxFromS,if_neg (Ne.symm h1),if_neg (Ne.symm h2),if_neg (Ne.symm h3),if_neg (Ne.symm h4)]
theorem effCells(w:World):∀j,j<bV.length->(w.alloc (.cells (bV.map Value.string).toArray 9)).cell? ⟨w.heap.size,0+j,none⟩=some (.string (bV.getD j ByteArray.empty)):=by
 intro j hj;rw[cell_of_row _ w.heap.size (0+j) _ _ _ (bY w _),Nat.zero_add]
 match j,hj with
 |0,_=>rfl
 |1,_=>rfl
 |2,_=>rfl
 |3,_=>rfl
theorem fieldsEff(w:World)(hs:Lib.TabIs Tryz.prog w "strings.asciiSpace" .u8 Lib.asciiSpaceTab):Calls Tryz.prog 190 #[.string effectB] w fun e w'=>e=.returned (.slice (some ⟨w.heap.size,0,none⟩) 4 4)/\w'=w.alloc (.cells (bV.map Value.string).toArray 9):=by
 have h:=Tryz.strings_Fields_laid effectB w aAO effAscii hs;rw[effLen,effFields] at h;exact h
theorem mW(s:bA)(w:World)(hs:Lib.TabIs Tryz.prog w "strings.asciiSpace" .u8 Lib.asciiSpaceTab):
  Calls Tryz.prog 191 #[.string s] w fun e w'=>e=.returned (.int .i64 (dJ s))/\Below w.heap.size w w':=by
 have HF:=zh (fieldsEff w hs);have HI:=zh (Tryz.slices_Index_string w.heap.size 0 4 4 bV s (w.alloc (.cells (bV.map Value.string).toArray 9)) (Nat.le_refl _) aAO (effCells w));have HB:=zh (aA w (.cells (bV.map Value.string).toArray 9));rw[show bV.take 4=bV from rfl] at HI;have hb:=bitOf_idx s;generalize w.alloc (.cells (bV.map Value.string).toArray 9)=w1 at HF HI HB;generalize Lib.idxOfS bV s=q at HI hb;generalize dJ s=r at hb ⊢;clear hs;rcases hb with⟨rfl,rfl⟩|⟨rfl,rfl⟩|⟨rfl,rfl⟩|⟨rfl,rfl⟩|⟨rfl,rfl⟩
 all_goals go_enter Tryz.func191,Tryz.ntmps191
 all_goals go_wp2_with(first|(go_at_call 190;refine HF.out.mono ?_;rintro e w2 ⟨rfl,rfl⟩)|(go_at_call 222;refine HI.out.mono ?_;rintro e w2 ⟨rfl,rfl⟩))
 all_goals go_ret
 all_goals exact⟨rfl,HB.out⟩
theorem more_any(p:Prs)(w:World)(i:Nat)(N:Nat->Prop)(t:Ty)(k:Int)(vf:Value)(s:bA)(h:p.At w i)(ht:jQ N w t [.int .i64 k,vf])(tC:cI t<=9000000000000000000):
  Calls Tryz.prog 187 #[.pointer (some ⟨p.pb,0,none⟩),.agg #[.int .i64 k,vf],.string s] w (Ran p.S w (moreP p.l i t s) fun b j e w'=>e=.returned (.bool b)/\p.At w' j):=by
 have HA:=zh h;have HL:=zh (fun W(hW:Below w.heap.size w W)=>levels_any _ t N k vf W (Nat.le_refl _) tC (fO _ _ _ _ _ _ (bU.later hW) ht));have HI:=zh (fun W(hW:p.At W i)=>gE p W i bT hW);have HE:=zh (fun W f s(hW:p.At W i)=>end_any p W i f s hW);have HM:Hid (moreP p.l i t s=if isP p.l i bT then(nW p.l i (decide (cI t<=4)) bT).bnd fun _ j=>.ok (false,j) else(nW p.l i (decide (cI t<=4)) s).bnd fun _ j=>.ok (true,j)):=zh rfl
 have hvf:∃a n c,vf=.slice a n c:=by
  cases t;rw[iF] at ht;obtain⟨v,e,a,c,rfl,-⟩:=ht;cases e;exact⟨_,_,_,rfl⟩
 obtain⟨a,n,c,rfl⟩:=hvf;clear h ht tC;have hdec:decide ((cI t:Int)<=4)=decide (cI t<=4):=aBh;have HD:=zh hdec;clear hdec;generalize cI t=lv at HL HM HD;generalize isP p.l i bT=q at HI HM
 cases q with
 |true=>
  exact YP
 |false=>
  exact YP
def posOf(w:World)(pb:Nat):Nat:=match w.cell? ⟨pb,1,none⟩ with
 |some (.int _ n)=>n.toNat
 |_=>0
theorem Prs.At.pos{p:Prs}{w:World}{i:Nat}(h:p.At w i):posOf w p.pb=i:=by unfold posOf;rw[h.box1];simp
theorem bx{w:World}{b:Nat}{cs:Array Value}{t:TypeId}(h:w.heap[b]? =some (.cells cs t))(i:Nat){u:Value}(hu:cs[i]? =some u):w.cell? ⟨b,i,none⟩=some u/\w.frozen? ⟨b,i,none⟩=false:=by
 constructor<;>simp[World.cell?,World.frozen?,h,hu]
theorem PR.bnd_bad{α β:Type}{m:PR α}{k:α->Nat->PR β}{x:Int×Int}(h:m=.error x):m.bnd k=.error x:=by rw[h];rfl
theorem PR.bnd_ok{α β:Type}{m:PR α}{k:α->Nat->PR β}{a:α}{j:Nat}(h:m=.ok (a,j)):m.bnd k=k a j:=by rw[h];rfl
theorem PR.of_bnd{α β:Type}{m:PR α}{k:α->Nat->PR β}{b:β}{j:Nat}(h:m.bnd k=.ok (b,j)):∃a i,m=.ok (a,i)/\k a i=.ok (b,j):=by
 unfold PR.bnd at h;split at h
 ·cases h
 exact⟨_,_,rfl,h⟩
section
variable {l:List Tok}
theorem cV{i j:Nat}{s:bA}(h:dP l i s=.ok ((),j)):j=i+1/\isP l i s=true:=by
 unfold dP at h;split at h
 ·cases h;exact⟨rfl,‹_›⟩
 cases h
theorem endP_ok{i j:Nat}{f:Bool}{s:bA}(h:nW l i f s=.ok ((),j)):j=i+1:=by
 unfold nW at h;split at h
 ·split at h
  ·cases h;rfl
  cases h
 cases h
theorem gA{i j:Nat}{a:bA}(h:gN l i=.ok (a,j)):j=i+1:=by
 unfold gN at h;split at h
 ·cases h;rfl
 cases h
theorem laterP_ok{i j:Nat}{a than:bA}{any:Bool}(h:gQ l i than any=.ok (a,j)):j=i+1:=by
 unfold gQ at h;split at h
 ·split at h
  ·cases h
  split at h
  ·cases h
  cases h;rfl
 cases h
theorem rQ{i j:Nat}{a:bA}{known:bA->Bool}(h:iY l i known=.ok (a,j)):j=i+1:=by
 unfold iY at h;split at h
 ·split at h
  ·cases h
  cases h;rfl
 cases h
theorem rM{i j:Nat}{t:Ty}{s:bA}{b:Bool}(h:moreP l i t s=.ok (b,j)):j=i+1:=by
 unfold moreP at h;split at h
 ·obtain⟨a,k,h1,h2⟩:=PR.of_bnd h;have:=endP_ok h1;cases h2;exact this
 obtain⟨a,k,h1,h2⟩:=PR.of_bnd h;have:=endP_ok h1;cases h2;exact this
theorem qZ{rec:Nat->PR Ty}{D:Nat}(hr:∀i t j,rec i=.ok (t,j)->cI t<=D):∀(F:Nat)(fs:List Fld)(i:Nat)(t:Ty)(j:Nat),dD fs<=D->fF l rec F fs i=.ok (t,j)->cI t<=D+1
 |0,fs,i,t,j,hf,h=>by
  unfold fF at h;cases h;rw[cI];omega
 |F+1,fs,i,t,j,hf,h=>by
  unfold fF at h;obtain⟨_,_,-,h⟩:=PR.of_bnd h;obtain⟨s,j1,-,h⟩:=PR.of_bnd h;obtain⟨u,j2,hu,h⟩:=PR.of_bnd h;obtain⟨q,j3,-,h⟩:=PR.of_bnd h;have hu2:=hr _ _ _ hu
  have hn:dD (fs++[(s,u)])<=D:=by
   have h1:=qV (fs++[(s,u)]) fs.length (s,u) aAQ;rw[List.take_of_length_le aAQ,List.take_left] at h1;rw[h1];exact Nat.max_le.2 ⟨hf,hu2⟩
  split at h
  ·cases h;rw[cI];omega
  exact qZ hr F _ _ t j hn h
theorem nN:∀(f i:Nat)(t:Ty)(j:Nat),gJ l f i=.ok (t,j)->cI t<=f
 |0,i,t,j,h=>by unfold gJ at h;cases h
 |f+1,i,t,j,h=>by
  unfold gJ at h;split at h
  ·cases h;simp[cI,dD]
  split at h
  ·cases h;simp[cI,dD]
  obtain⟨_,j1,-,h⟩:=PR.of_bnd h;split at h
  ·cases h;simp[cI,dD]
  exact qZ (fun i t j h=>nN f i t j h) _ _ _ t j (by simp[dD]) h
def jO(fs:List Fld):bA:=(fs.getLast?.map (·.1)).getD noB
theorem gK{rec:Nat->PR Ty}{F:Nat}{fs:List Fld}{i:Nat}(hq:dM l i=true):fF l rec (F+1) fs i=
  (iM l i fs.length 8).bnd fun _ _=>(gQ l i (jO fs) (decide (0<fs.length))).bnd fun s j=>(rec j).bnd fun t j2=>(moreP l j2 t iQ).bnd fun q j3=>
   if q then .ok (.mk 2 (fs++[(s,t)]),j3) else fF l rec F (fs++[(s,t)]) j3:=by
 rw[fF,if_pos hq];rfl
theorem qY{rec:Nat->PR Ty}{F:Nat}{fs:List Fld}{i:Nat}(hq:dM l i=false):fF l rec (F+1) fs i=.error ((aJ l i).pos,11):=by
 rw[fF,if_neg aCk];unfold gQ;rw[hq];rfl
end
end Go.Proofs.YtacgopankhpnbaaGreatDoor
namespace Go.Proofs.YtacgopankhpnbaaGreatDoor
open Go.RowKit
theorem Y4{p:Prop}(h:p:=by
 rename_i wR;subst wR;have hR:=sK.out.trans ((PR.bnd_ok A8.out).trans ((PR.bnd_ok uM.out).trans ((PR.bnd_ok vR).trans (if_neg aAQ))));have TK:=rM vR;have TD:=uG.lt;obtain⟨F',wT⟩:∃F',F=F'+1:=⟨F-1,aAM⟩;have HR':=zh hR;have O3:=zh uG;clear hR uG;go_roundw
 case rel=>
  subst wT;exact⟨j3,F',_,_,_,zh ⟨AL.out,O3.out,HR'.out,aAM,aAM⟩⟩
 case measure=>
  rw[O3.out.pos,HT.out.2.1.pos];omega):p:=h
theorem ZF{p:Prop}(h:p:=by
 refine⟨_,rfl,hs,?_⟩;refine fO.wide (fO.off wB o9 (fun b hb hn=>by have hn:(w6.alloc (cX a 0 none 0 0)).heap.size<=b:=hn;omega)) fun b hn _=>?_;have hn:(w6.alloc (cX a 0 none 0 0)).heap.size<=b:=hn
 exact⟨aAM,fun e=>by have:=sE b e;omega⟩):p:=h
theorem aAg{p:Prop}(h:p:=by
 refine qX (N:=bM B) hR aAM AL.out.off uG HS.out ?_ (fun b hb=>aCI);rw[iF]
 exact⟨_,rfl,AL.out.acc.row bB⟩):p:=h
theorem aAw{p:Prop}(h:p:=by
 exact⟨rfl,Ran.bad' (sK.out.trans ((PR.bnd_ok A8.out).trans ((PR.bnd_ok uM.out).trans (PR.bnd_bad vR)))) AL.out.off⟩):p:=h
theorem aAC{p:Prop}(h:p:=by
 exact⟨rfl,Ran.bad' (by have e:=(jV xU).symm.trans hx;cases e;exact HT.out.2.2.1.trans (qY xU)) IM.out.off⟩):p:=h
theorem Off.fresh{S:Nat->Prop}{w w':World}{B:Nat}(h:Off (fun k=>S k\/B<=k) w w')(hB:w.heap.size<=B):Off S w w':=
 ⟨h.os,h.tape,h.output,h.size,fun k hk hn=>h.block k hk (fun hs=>hs.elim hn (fun hb=>aAM))⟩
theorem Off.or{S:Nat->Prop}{w w':World}(B:Nat)(h:Off S w w'):Off (fun k=>S k\/B<=k) w w':=h.mono fun _ h=>.inl h
theorem encT_slice{N:Nat->Prop}{w:World}{t:Ty}{k:Int}{vf:Value}(h:jQ N w t [.int .i64 k,vf]):∃a n c,vf=.slice a n c:=by
 cases t;rw[iF] at h;obtain⟨v,e,a,c,rfl,-⟩:=h;cases e;exact⟨_,_,_,rfl⟩
theorem fldInfo:(Tryz.prog.info? 184).map (fun i=>(i.zero,i.size,i.bytes))=some (some (oBx32 ByteArray.empty 0 none 0 0),3,48):=aAN
theorem bxT2{w:World}{b:Nat}{x y:Value}{t:TypeId}(h:w.heap[b]? =some (.cells #[x,y] t)):w.cell? ⟨b,0,none⟩=some x/\w.cell? ⟨b,1,none⟩=some y/\w.frozen? ⟨b,0,none⟩=false/\w.frozen? ⟨b,1,none⟩=false:=
 ⟨(bx h 0 rfl).1,(bx h 1 rfl).1,(bx h 0 (u:=x) rfl).2,(bx h 1 (u:=y) rfl).2⟩
theorem bxT3{w:World}{b:Nat}{x y z:Value}{t:TypeId}(h:w.heap[b]? =some (.cells #[x,y,z] t)):w.cell? ⟨b,0,none⟩=some x/\w.cell? ⟨b,1,none⟩=some y/\w.cell? ⟨b,2,none⟩=some z/\w.frozen? ⟨b,0,none⟩=false/\w.frozen? ⟨b,1,none⟩=false/\w.frozen? ⟨b,2,none⟩=false:=
 ⟨(bx h 0 rfl).1,(bx h 1 rfl).1,(bx h 2 rfl).1,(bx h 0 (u:=x) rfl).2,(bx h 1 (u:=y) rfl).2,(bx h 2 (u:=z) rfl).2⟩
def TypedOk(p:Prs)(f:Nat):Prop:=∀(i:Nat)(w:World),p.At w i->p.l.length<f+i->Calls Tryz.prog 136 #[.pointer (some ⟨p.pb,0,none⟩)] w
 (Ran p.S w (gJ p.l f i) fun t j e w'=>∃k sa sn sc,e=.returned (.agg #[.int .i64 k,.slice sa sn sc])/\jQ (bM w.heap.size) w' t [.int .i64 k,.slice sa sn sc]/\p.At w' j/\i<j)
structure TyL (p:Prs) (W:World) (b3 B:Nat) (fs:List Fld) (css:List (List Value)) (v:Value) (wr:World):Prop where
 off:Off p.S W wr
 res:wr.heap[W.heap.size]? =some (lH 0 none 0 0)
 loc:wr.heap[b3]? =some (.cells #[.int .i64 2,v] 175)
 acc:Gro 3 184 gR B fs css v wr
 b3:W.heap.size<b3/\b3<B
 pb:p.pb<W.heap.size
 few:fs.length<=8
 val:(fs=[]/\v=.slice none 0 0)\/∃m g cap,fs.length=m+1/\v=.slice (some ⟨g,0,none⟩) (m+1) cap
section
variable {p:Prs} {W wr w':World} {b3 B:Nat} {fs:List Fld} {css:List (List Value)} {v:Value}
theorem TyL.next(h:TyL p W b3 B fs css v wr)(ho:Off p.S wr w'):TyL p W b3 B fs css v w':=
 ⟨h.off.trans ho,ho.heap (fun e=>by have:=h.pb;have e:W.heap.size=p.pb:=e;omega) h.res,ho.heap (fun e=>by have:=h.pb;have:=h.b3;have e:b3=p.pb:=e;omega) h.loc,
  h.acc.stays bB (dN.of_off ho fun b hb=>.inl (by have:=h.pb;have:=h.b3;have hb:b=p.pb:=hb;omega)),h.b3,h.pb,h.few,h.val⟩
theorem TyL.last(h:TyL p W b3 B fs css v wr){m g cap:Nat}(hm:fs.length=m+1)(hv:v=.slice (some ⟨g,0,none⟩) (m+1) cap):wr.cell? ⟨g,m*3,none⟩=some (.string (jO fs)):=by
 obtain⟨a,c,e,-,-,h3⟩:=h.acc.row bB;rw[hv] at e;obtain⟨b,o,ha,-,hc⟩:=h3 (fun e=>by rw[e] at hm;simp at hm);injection e with e1 e2 e3
 rw[ha] at e1;cases e1;obtain⟨x,hx,-⟩:=getElem?_of_lt (l:=fs) (k:=m) aAM;obtain⟨cs,⟨ct,rfl,-⟩,-,hj⟩:=hc m x hx;have:=hj 0 (.string x.1) rfl
 have hl:jO fs=x.1:=by
  unfold jO;rw[List.getLast?_eq_getElem?,hm,show m+1-1=m by omega,hx];rfl
 rw[hl];simpa using this
end
theorem qX{p:Prs}{W w:World}{r:PR Ty}{i j:Nat}{t:Ty}{k:Int}{sa:Option Addr}{sn sc:Nat}{N:Nat->Prop}(hr:r=.ok (t,j))(CQ:i<j)(ho:Off p.S W w)(ha:p.At w j)(hW:p.At W i)(ht:jQ N w t [.int .i64 k,.slice sa sn sc])(hN:∀b,N b->W.heap.size<b):
  Ran p.S W r (fun t j e w'=>∃k sa sn sc,e=.returned (.agg #[.int .i64 k,.slice sa sn sc])/\jQ (bM W.heap.size) w' t [.int .i64 k,.slice sa sn sc]/\p.At w' j/\i<j) (.returned (.agg #[.int .i64 k,.slice sa sn sc])) ((w.setCell ⟨W.heap.size,0,none⟩ (.int .i64 k)).setCell ⟨W.heap.size,1,none⟩ (.slice sa sn sc)):=by
 have sG:Off (fun b=>b=W.heap.size) w ((w.setCell ⟨W.heap.size,0,none⟩ (.int .i64 k)).setCell ⟨W.heap.size,1,none⟩ (.slice sa sn sc)):=(Off.setCell (S:=fun b=>b=W.heap.size) w rfl).trans (Off.setCell (S:=fun b=>b=W.heap.size) _ rfl);refine Ran.good hr ⟨k,sa,sn,sc,rfl,fO _ _ _ _ _ _ (fun b hb _=>⟨Nat.le_of_lt (hN b hb),fun o v hv=>sG.cell (fun e=>by have:=hN b hb;omega) hv⟩) ht,?_,CQ⟩ ?_
 ·exact ha.off sG (fun e=>by have:=hW.blt;omega) (fun e=>by have:=cT (hW.toks i _ hW.tok).1.1;omega) (fun k hk e=>by have:=hW.glob.big;omega)
 exact Off.fresh ((ho.or _).trans (sG.mono fun b hb=>.inr (Nat.le_of_eq hb.symm))) (Nat.le_refl _)
theorem Prs.At.above{p:Prs}{W w w':World}{i j:Nat}(hW:p.At W i)(h:p.At w j)(ho:Off (fun k=>W.heap.size<=k) w w'):p.At w' j:=
 h.off ho (fun e=>by have:=hW.blt;omega) (fun e=>by have:=cT (hW.toks i _ hW.tok).1.1;omega) (fun k hk e=>by have:=hW.glob.big;omega)
theorem eW.off{α:Type}{enc:(Nat->Prop)->World->α->List Value->Prop}(he:eW enc){S N:Nat->Prop}{w w':World}{x:α}{cs:List Value}(h:enc N w x cs)(ho:Off S w w')(hS:∀b,S b->¬N b):enc N w' x cs:=
 he _ _ _ _ _ _ (fun b hb _=>⟨hb,fun _ _ hv=>ho.cell (fun hs=>hS b hs hb) hv⟩) h
theorem eW.wide{α:Type}{enc:(Nat->Prop)->World->α->List Value->Prop}(he:eW enc){N N':Nat->Prop}{w:World}{x:α}{cs:List Value}(h:enc N w x cs)(hN:∀b,N b->b<w.heap.size->N' b):enc N' w x cs:=
 he _ _ _ _ _ _ (fun b hb hl=>⟨hN b hb hl,fun _ _ hv=>hv⟩) h
theorem TyL.added{p:Prs}{W w9 tB:World}{b3 B g cap:Nat}{fs:List Fld}{css:List (List Value)}{v:Value}{x:Fld}{news:List Value}(h:TyL p W b3 B fs css v w9)(hfew:fs.length<8)(hx:gR (nA B v) w9 x news)(hl:news.length=3)
  (sB:tB.ownsRow B 184 3 (.slice (some ⟨g,0,none⟩) (fs.length+1) cap) (fs.length+1) (css.flatten++news)) (sA:w9.grownBy tB v.ownBlock) (sM:v.ownBlock=some g\/g=w9.heap.size):
  TyL p W b3 B (fs++[x]) (css++[news]) (.slice (some ⟨g,0,none⟩) (fs.length+1) cap) (tB.setCell ⟨b3,1,none⟩ (.slice (some ⟨g,0,none⟩) (fs.length+1) cap)):=by
 have hA:=h.acc.added bB hx hl sB sA sM;have tC:=h.acc.big;have hb:=h.b3;have sE:=h.acc.lt;have o1:Off (fun k=>B<=k) w9 tB:=⟨sA.os,sA.tape,sA.output,sA.size,fun k hk hn=>sA.block k hk (fun e=>hn (sE k e.symm).1)⟩;have o2:Off (fun k=>k=b3) tB (tB.setCell ⟨b3,1,none⟩ (.slice (some ⟨g,0,none⟩) (fs.length+1) cap)):=Off.setCell (S:=fun k=>k=b3) tB rfl;refine⟨?_,?_,?_,hA.stays bB (dN.of_off o2 fun b sD=>.inl aAM),hb,h.pb,aA0,.inr ⟨fs.length,g,cap,aAQ,rfl⟩⟩
 ·exact Off.fresh ((h.off.or _).trans ((o1.mono fun k hk=>.inr aAM).trans (o2.mono fun k hk=>.inr aAM))) (Nat.le_refl _)
 ·exact o2.heap aAM (o1.heap aAM h.res)
 rw[aO (o1.heap aAM h.loc)];rfl
theorem TyL.step{p:Prs}{W w6 w7 tB:World}{b3 B g cap n1 i0 j2:Nat}{fs:List Fld}{css:List (List Value)}{v:Value}{a:bA}{t:Ty}{k:Int}{sa:Option Addr}{sn sc:Nat}(hW:p.At W i0)(h6:TyL p W b3 B fs css v w6)(hfew:fs.length<8)
  (sQ:Off p.S (w6.alloc (cX a 0 none 0 0)) w7) (uX:p.At w7 j2) (wB:jQ (bM (w6.alloc (cX a 0 none 0 0)).heap.size) w7 t [.int .i64 k,.slice sa sn sc]) (hs:a.size<=8000)
  (sB:tB.ownsRow B 184 3 (.slice (some ⟨g,0,none⟩) n1 cap) n1 (css.flatten++[.string a,.int .i64 k,.slice sa sn sc])) (hn:n1=fs.length+1) (sA:(((w7.setCell ⟨w6.heap.size,1,none⟩ (.int .i64 k)).setCell ⟨w6.heap.size,2,none⟩ (.slice sa sn sc)).alloc (cX a k sa sn sc)).grownBy tB v.ownBlock) (sM:v.ownBlock=some g\/g=w7.heap.size+1):
  tB.heap[b3]? =some (.cells #[.int .i64 2,v] 175)/\TyL p W b3 B (fs++[(a,t)]) (css++[[.string a,.int .i64 k,.slice sa sn sc]]) (.slice (some ⟨g,0,none⟩) n1 cap) (tB.setCell ⟨b3,1,none⟩ (.slice (some ⟨g,0,none⟩) n1 cap))/\
  p.At (tB.setCell ⟨b3,1,none⟩ (.slice (some ⟨g,0,none⟩) n1 cap)) j2/\jQ (bM (w6.heap.size+1)) (tB.setCell ⟨b3,1,none⟩ (.slice (some ⟨g,0,none⟩) n1 cap)) t [.int .i64 k,.slice sa sn sc]/\
  (tB.setCell ⟨b3,1,none⟩ (.slice (some ⟨g,0,none⟩) n1 cap)).heap[w6.heap.size]? =some (cX a k sa sn sc):=by
 subst hn;have hb:=h6.b3;have tC:=h6.acc.big;have xH:=h6.pb;have sE:=h6.acc.lt;have tI:(w6.alloc (cX a 0 none 0 0)).heap.size=w6.heap.size+1:=aAQ;have o7:Off p.S w6 w7:=(Ba (aA w6 (cX a 0 none 0 0))).trans sQ;have LG:w6.heap.size+1<=w7.heap.size:=by have:=sQ.size;omega
 have o8:Off (fun b=>b=w6.heap.size) w7 ((w7.setCell ⟨w6.heap.size,1,none⟩ (.int .i64 k)).setCell ⟨w6.heap.size,2,none⟩ (.slice sa sn sc)):=(Off.setCell (S:=fun b=>b=w6.heap.size) w7 rfl).trans (Off.setCell (S:=fun b=>b=w6.heap.size) _ rfl);have o9:Off (fun b=>b=w6.heap.size) w7 (((w7.setCell ⟨w6.heap.size,1,none⟩ (.int .i64 k)).setCell ⟨w6.heap.size,2,none⟩ (.slice sa sn sc)).alloc (cX a k sa sn sc)):=o8.trans (Ba (aA _ _));have O9:Off p.S w6 (((w7.setCell ⟨w6.heap.size,1,none⟩ (.int .i64 k)).setCell ⟨w6.heap.size,2,none⟩ (.slice sa sn sc)).alloc (cX a k sa sn sc)):=Off.fresh ((o7.or w6.heap.size).trans (o9.mono fun b hb=>.inr aAM)) (Nat.le_refl _);have h9:=h6.next O9
 have hx:gR (nA B v) (((w7.setCell ⟨w6.heap.size,1,none⟩ (.int .i64 k)).setCell ⟨w6.heap.size,2,none⟩ (.slice sa sn sc)).alloc (cX a k sa sn sc)) (a,t) [.string a,.int .i64 k,.slice sa sn sc]:=by
  exact ZF
 have DQ:(((w7.setCell ⟨w6.heap.size,1,none⟩ (.int .i64 k)).setCell ⟨w6.heap.size,2,none⟩ (.slice sa sn sc)).alloc (cX a k sa sn sc)).heap.size=w7.heap.size+1:=aAQ;have hT:=h9.added hfew hx rfl sB sA aC4;have JJ:w7.heap[w6.heap.size]? =some (cX a 0 none 0 0):=sQ.heap (fun e=>by have e:w6.heap.size=p.pb:=e;omega) (bY w6 (cX a 0 none 0 0))
 have hf8:(((w7.setCell ⟨w6.heap.size,1,none⟩ (.int .i64 k)).setCell ⟨w6.heap.size,2,none⟩ (.slice sa sn sc)).alloc (cX a k sa sn sc)).heap[w6.heap.size]? =some (cX a k sa sn sc):=by
  refine aD (aA _ _) ?_;rw[aO (aO JJ _) _];rfl
 have BD:Off (fun b=>B<=b/\b<w6.heap.size) (((w7.setCell ⟨w6.heap.size,1,none⟩ (.int .i64 k)).setCell ⟨w6.heap.size,2,none⟩ (.slice sa sn sc)).alloc (cX a k sa sn sc)) tB:=⟨sA.os,sA.tape,sA.output,sA.size,fun b hb hn=>sA.block b hb (fun e=>hn (by have:=sE b e.symm;exact this))⟩;have P7:Off (fun b=>b=b3) tB (tB.setCell ⟨b3,1,none⟩ (.slice (some ⟨g,0,none⟩) (fs.length+1) cap)):=Off.setCell (S:=fun b=>b=b3) tB rfl;refine⟨BD.heap aAM h9.loc,hT,?_,?_,?_⟩
 ·exact hW.above uX ((o9.mono fun b hb=>aAM).trans ((BD.mono fun b hb=>aAM).trans (P7.mono fun b hb=>aAM)))
 ·rw[tI] at wB;exact fO.off wB ((o9.mono (S':=fun b=>b<=w6.heap.size) fun b hb=>aAM).trans ((BD.mono fun b hb=>aAM).trans (P7.mono fun b hb=>aAM))) (fun b hb hn=>by have hn:w6.heap.size+1<=b:=hn;omega)
 exact P7.heap aAM (BD.heap aAM hf8)
theorem jV{l:List Tok}{i:Nat}{than:bA}{any:Bool}(hq:dM l i=false):gQ l i than any=.error ((aJ l i).pos,11):=by unfold gQ;rw[hq];rfl
theorem Ran.bad'{α:Type}{S:Nat->Prop}{w w':World}{r:PR α}{V:α->Nat->Ending->World->Prop}{x:Int×Int}(hr:r=.error x)(ho:Off S w w'):
  Ran S w r V (.panicked [{v:=.iface 205 (.agg #[.int .i64 x.1,.int .i64 x.2]),recovered:=false}]) w':=.inl ⟨x,hr,rfl,ho⟩
theorem typed_int(p:Prs)(f:Nat)(w:World)(i:Nat)(h:p.At w i)(hq:isP p.l i kIntW=true):Calls Tryz.prog 136 #[.pointer (some ⟨p.pb,0,none⟩)] w
  (Ran p.S w (gJ p.l (f+1) i) fun t j e w'=>∃k sa sn sc,e=.returned (.agg #[.int .i64 k,.slice sa sn sc])/\jQ (bM w.heap.size) w' t [.int .i64 k,.slice sa sn sc]/\p.At w' j/\i<j):=by
 have HR:Hid (gJ p.l (f+1) i=.ok (.mk 0 [],i+1)):=zh (by unfold gJ;rw[if_pos hq]);have HH:=zh (fV p (w.alloc (lH 0 none 0 0)) i kIntW (h.later (aA _ _)) hq);have HS:=zh h;have HO:=zh (Ba (S:=p.S) (aA w (lH 0 none 0 0)));have HB:=zh (bY w (lH 0 none 0 0));clear h hq;go_enter Tryz.func136,Tryz.ntmps136;go_wp2_with(go_at_call 141;refine HH.out.mono ?_;rintro e w1 ⟨rfl,sT,sJ⟩;have sF:=sJ.heap aBQ HB.out;obtain⟨c0,c1,f0,f1⟩:=bxT2 sF);refine bodyPost_ret (v:=.agg #[.int .i64 0,.slice none 0 0]) (by simp[results,Tryz.results136,go_sem,c0,c1]) rfl ?_;refine qX (N:=fun _=>False) HR.out aAM (HO.out.trans sJ) sT HS.out aCG (fun b hb=>hb.elim)
theorem typed_bool(p:Prs)(f:Nat)(w:World)(i:Nat)(h:p.At w i)(yP:isP p.l i kIntW=false)(hq:isP p.l i kBool=true):Calls Tryz.prog 136 #[.pointer (some ⟨p.pb,0,none⟩)] w
  (Ran p.S w (gJ p.l (f+1) i) fun t j e w'=>∃k sa sn sc,e=.returned (.agg #[.int .i64 k,.slice sa sn sc])/\jQ (bM w.heap.size) w' t [.int .i64 k,.slice sa sn sc]/\p.At w' j/\i<j):=by
 have HR:Hid (gJ p.l (f+1) i=.ok (.mk 1 [],i+1)):=zh (by unfold gJ;rw[if_neg (by rw[yP];simp),if_pos hq]);have HH0:=zh (bF p (w.alloc (lH 0 none 0 0)) i kIntW (h.later (aA _ _)) yP);have HH:=zh (fun W(hW:p.At W i)=>fV p W i kBool hW hq);have HS:=zh h;have HO:=zh (Ba (S:=p.S) (aA w (lH 0 none 0 0)));have HB:=zh (bY w (lH 0 none 0 0));clear h hq yP;go_enter Tryz.func136,Tryz.ntmps136;go_wp2_with(first|(go_at_call 141;refine(HH.out w1 sT).mono ?_;rintro e w2 ⟨rfl,tD,sG⟩;have sD:=sG.heap aBQ sF;obtain⟨c0,c1,f0,f1⟩:=bxT2 sD)|(go_at_call 141;refine HH0.out.mono ?_;rintro e w1 ⟨rfl,sT,sJ⟩;have sF:=sJ.heap aBQ HB.out));refine bodyPost_ret (v:=.agg #[.int .i64 1,.slice none 0 0]) (by simp[results,Tryz.results136,go_sem,c0,c1]) rfl ?_;refine qX (N:=fun _=>False) HR.out aAM (HO.out.trans (sJ.trans sG)) tD HS.out aCG (fun b hb=>hb.elim)
theorem typed_more(p:Prs)(f:Nat)(hf:f<=8010)(MR:TypedOk p f)(w:World)(i:Nat)(h:p.At w i)(vC:p.l.length<f+1+i)(yP:isP p.l i kIntW=false)(hq:isP p.l i kBool=false):Calls Tryz.prog 136 #[.pointer (some ⟨p.pb,0,none⟩)] w
  (Ran p.S w (gJ p.l (f+1) i) fun t j e w'=>∃k sa sn sc,e=.returned (.agg #[.int .i64 k,.slice sa sn sc])/\jQ (bM w.heap.size) w' t [.int .i64 k,.slice sa sn sc]/\p.At w' j/\i<j):=by
 obtain⟨i0,vA,tM,sY,sX⟩:=info_parts fldInfo;have HR:Hid (gJ p.l (f+1) i=(dP p.l i cL).bnd fun _ j=>if isP p.l j iQ then .ok (.mk 2 [],j+1) else fF p.l (gJ p.l f) (p.l.length+1) [] j):=zh (by rw[gJ];rw[if_neg (by rw[yP];simp),if_neg aCk]);have HRec:=zh MR;have HH0:=zh (bF p (w.alloc (lH 0 none 0 0)) i kIntW (h.later (aA _ _)) yP);have HH:=zh (fun W(hW:p.At W i)=>bF p W i kBool hW hq);have UB:=zh (fun W(hW:p.At W i)=>dH p W i cL hW);have HS:=zh h;have HO:=zh (Ba (S:=p.S) (aA w (lH 0 none 0 0)));have HB:=zh (bY w (lH 0 none 0 0));have sC:w.heap.size≠p.pb:=aBb;clear h hq yP MR;go_enter Tryz.func136,Tryz.ntmps136;go_wp2_with(first|(go_at_call 131;refine(UB.out w2 tD).mono ?_;rintro e w3 (⟨x,hx,rfl,sL⟩|⟨⟨⟩,j,hx,⟨rfl,uY⟩,sL⟩))|(go_at_call 141;refine(oO p (w3.alloc (lH 2 none 0 0)) j iQ (uY.later (aA _ _))).mono ?_;rintro e w4 ⟨rfl,uR,sI⟩;have hlt3:=uY.blt;have VB:=zh (sI.heap (by intro e;have e:w3.heap.size=p.pb:=e;omega) (bY w3 (lH 2 none 0 0)));have hr4:=zh (sI.heap sC (aD (aA w3 (lH 2 none 0 0)) (sL.heap sC (sG.heap sC (sJ.heap sC HB.out)))));obtain⟨c0,c1,f0,f1⟩:=bxT2 VB.out;obtain⟨d0,d1,g0,g1⟩:=bxT2 hr4.out)|(go_at_call 141;refine(HH.out w1 sT).mono ?_;rintro e w2 ⟨rfl,tD,sG⟩)|(go_at_call 141;refine HH0.out.mono ?_;rintro e w1 ⟨rfl,sT,sJ⟩))
 ·exact⟨rfl,Ran.bad (HR.out.trans (PR.bnd_bad hx)) (HO.out.trans (sJ.trans (sG.trans sL)))⟩
 ·rename_i MT;have hj:j=i+1:=(cV hx).1;rw[if_pos MT] at uR;have F8:Hid (gJ p.l (f+1) i=.ok (.mk 2 [],j+1)):=zh (HR.out.trans ((PR.bnd_ok hx).trans (if_pos MT)));refine bodyPost_ret (v:=.agg #[.int .i64 2,.slice none 0 0]) (by simp[results,Tryz.results136,go_sem,d0,d1]) rfl ?_;refine qX (N:=fun _=>False) F8.out aAM (HO.out.trans (sJ.trans (sG.trans (sL.trans ((Ba (aA w3 (lH 2 none 0 0))).trans sI))))) uR HS.out aCG (fun b hb=>hb.elim)
 rename_i MT;have hj:j=i+1:=(cV hx).1;rw[if_neg (by rw[MT];simp)] at uR;have F8:Hid (gJ p.l (f+1) i=fF p.l (gJ p.l f) (p.l.length+1) [] j):=zh (HR.out.trans ((PR.bnd_ok hx).trans (if_neg (by rw[MT];simp))));have JX:=zh (HO.out.trans (sJ.trans (sG.trans (sL.trans ((Ba (aA w3 (lH 2 none 0 0))).trans sI)))));have hsz3:w.heap.size<w3.heap.size:=(Array.getElem?_eq_some_iff.1 (sL.heap sC (sG.heap sC (sJ.heap sC HB.out)))).1;have QM:w3.heap.size<w4.heap.size:=(Array.getElem?_eq_some_iff.1 VB.out).1;have HJ:=zh hj;clear hj;have XS:=zh uR;have HTy:Hid (TyL p w w3.heap.size w4.heap.size [] [] (.slice none 0 0) w4):=zh ⟨JX.out,hr4.out,VB.out,Gro.first _ _ _ _,⟨hsz3,QM⟩,HS.out.blt,Nat.zero_le _,.inl ⟨rfl,rfl⟩⟩;clear sJ sG sL sI sT tD uY uR VB hr4 JX HR MT c0 c1 f0 f1 d0 d1 g0 g1 HH0 HH UB HB HO hx;generalize w3.heap.size=b3 at *;generalize w4.heap.size=B at *;go_loopw [4] (fun s4 wr=>∃(q F:Nat)(fs:List Fld)(css:List (List Value))(v:Value),Hid (TyL p w b3 B fs css v wr/\p.At wr q/\gJ p.l (f+1) i=fF p.l (gJ p.l f) (F+1) fs q/\p.l.length<=F+q/\i<q)) (fun _ wr=>p.l.length-posOf wr p.pb)
 case atStart=>exact⟨j,p.l.length,[],[],_,zh ⟨HTy.out,XS.out,F8.out,aAM,by have:=HJ.out;omega⟩⟩
 case round=>
  obtain⟨q,F,fs,css,v,HT⟩:=hrel;rename World=>wr
  have hlen:=HT.out.2.1.len;have MT:=HT.out.2.2.2;rcases HT.out.1.val with⟨rfl,rfl⟩|⟨m,g,cap,hm,rfl⟩
  ·cases xU:dM p.l q with
   |false=>
    as_aux_lemma=>
     go_wp2_with(first|(go_at_call 185;refine(iX p wr q HT.out.2.1).mono ?_;rintro e w5 ⟨rfl,hb5⟩;rw[xU];have xC:=zh (HT.out.2.1.later hb5);have JN:=zh (HT.out.1.next (Ba hb5));obtain⟨c0,c1,f0,f1⟩:=bxT2 JN.out.loc)|(go_at_call 186;refine(oT p w5 q ⟨#[]⟩ false xC.out).mono ?_;rintro e w6 (⟨x,hx,rfl,sU⟩|⟨a,j1,hx,⟨rfl,wD,QR⟩,sU⟩)<;>have IM:=zh (JN.out.next sU)))
     ·exact aAC
     rw[jV xU] at hx;cases hx
   |true=>
    as_aux_lemma=>
     go_wp2_with(first|(go_at_call 185;refine(iX p wr q HT.out.2.1).mono ?_;rintro e w5 ⟨rfl,hb5⟩;rw[xU];have xC:=zh (HT.out.2.1.later hb5);have JN:=zh (HT.out.1.next (Ba hb5));obtain⟨c0,c1,f0,f1⟩:=bxT2 JN.out.loc)|(go_at_call 144;refine(fW p w5 q _ _ xC.out).mono ?_;rintro e w5' (⟨H7,rfl,rfl⟩|⟨H7,rfl,RF⟩)<;>first|(cases H7;done)|skip)|(go_at_call 186;refine(oT p w5 q ⟨#[]⟩ false xC.out).mono ?_;rintro e w6 (⟨x,hx,rfl,sU⟩|⟨a,j1,hx,⟨rfl,wD,QR⟩,sU⟩)<;>have IM:=zh (JN.out.next sU))|(go_at_call 136;have H4:=laterP_ok hx;refine(HRec.out j1 (w6.alloc (cX a 0 none 0 0)) (wD.later (aA _ _)) aAM).mono ?_;rintro e w7 (⟨x2,tV,rfl,sQ⟩|⟨t,j2,tV,⟨k,sa,sn,sc,rfl,wB,uX,Q3⟩,sQ⟩)<;>have JJ:=zh (sQ.heap (fun e=>aB8) (bY w6 (cX a 0 none 0 0)))<;>have D7:=zh (IM.out.next ((Ba (aA w6 (cX a 0 none 0 0))).trans sQ))<;>have vI:=IM.out.acc.big<;>have hn6:¬b3=w6.heap.size:=aAM<;>have hn6':¬w6.heap.size=b3:=aAM<;>obtain⟨RR,FV,f0',f1'⟩:=bxT2 D7.out.loc<;>obtain⟨d0,d1,d2,e0,e1,e2⟩:=bxT3 JJ.out)|(at_builtin;have O9:Off p.S w6 (((w7.setCell ⟨w6.heap.size,1,none⟩ (.int .i64 k)).setCell ⟨w6.heap.size,2,none⟩ (.slice sa sn sc)).alloc (cX a k sa sn sc)):=Off.fresh (((Ba (S:=p.S) (aA w6 (cX a 0 none 0 0))).trans sQ).or w6.heap.size |>.trans (((Off.setCell (S:=fun b=>p.S b\/w6.heap.size<=b) w7 (.inr (Nat.le_refl _))).trans (Off.setCell (S:=fun b=>p.S b\/w6.heap.size<=b) _ (.inr (Nat.le_refl _)))).trans (Ba (aA _ _)))) (Nat.le_refl _);have yI:=zh (IM.out.next O9);have uL:=yI.out.acc.big;have tE:=yI.out.acc.own;refine wpList_append_lies _ rfl _ _ 126 rfl B 184 i0 (oBx32 ByteArray.empty 0 none 0 0) 3 48 Tryz.underlying126 vA tM sY sX rfl aAM (.slice none 0 0) 0 css.flatten aBm (by simpa using tE) ⟨w7.heap.size,0,none⟩ 1 1 [.string a,.int .i64 k,.slice sa sn sc] aBm rfl (World.news_of_block (cs:=#[.string a,.int .i64 k,.slice sa sn sc]) (t:=184) (fr:=(0,0)) aBC) aA1 aAM aAY aAM (by simpa using uL) (w7.heap.size+1) aAQ ?_))
     ·have sK:=zh (HT.out.2.2.1.trans ((gK xU).trans (PR.bnd_ok (if_pos (show 0<8 by decide)))));have A8:Hid (gQ p.l q (jO ([]:List Fld)) (decide (0<([]:List Fld).length))=_):=zh hx;exact⟨rfl,Ran.bad' (sK.out.trans (PR.bnd_bad A8.out)) IM.out.off⟩
     ·have sK:=zh (HT.out.2.2.1.trans ((gK xU).trans (PR.bnd_ok (if_pos (show 0<8 by decide)))));have A8:Hid (gQ p.l q (jO ([]:List Fld)) (decide (0<([]:List Fld).length))=_):=zh hx;exact⟨rfl,Ran.bad' (sK.out.trans ((PR.bnd_ok A8.out).trans (PR.bnd_bad tV))) D7.out.off⟩
     have sK:=zh (HT.out.2.2.1.trans ((gK xU).trans (PR.bnd_ok (if_pos (show 0<8 by decide)))));have A8:Hid (gQ p.l q (jO ([]:List Fld)) (decide (0<([]:List Fld).length))=_):=zh hx;intro g' cap' tB sB sA sM _;obtain⟨FU,N0,wS,FE,NH⟩:=IM.out.step HS.out aAO sQ uX wB QR sB rfl sA sM;obtain⟨m0,m1,n0,n1⟩:=bxT2 FU;obtain⟨q0,q1,q2,r0,r1,r2⟩:=bxT3 NH;have WN:=zh N0;have uM:=zh tV;have HMr:=zh (more_any p _ j2 _ t k _ iQ wS FE (Nat.le_trans (nN f _ t j2 tV) aAM));clear sB sA sM FU N0 wS FE NH wB uX sQ JJ D7 O9 yI uL tE RR FV f0' f1' d0 d1 d2 e0 e1 e2 hx tV;go_wp2_with(go_at_call 187;refine HMr.out.mono ?_;rintro e tG (⟨x3,vR,rfl,sZ⟩|⟨bb,j3,vR,⟨rfl,uG⟩,sZ⟩)<;>have AL:=zh (WN.out.next sZ)<;>obtain⟨y0,y1,z0,z1⟩:=bxT2 AL.out.loc<;>obtain⟨u0',u1',v0',v1'⟩:=bxT2 AL.out.res)
     ·exact aAw
     ·rename_i wR;subst wR;have hR:=sK.out.trans ((PR.bnd_ok A8.out).trans ((PR.bnd_ok uM.out).trans ((PR.bnd_ok vR).trans (if_pos rfl))));have TK:=rM vR;refine bodyPost_ret (v:=.agg #[.int .i64 2,.slice (some ⟨g',0,none⟩) 1 cap']) (by simp[results,Tryz.results136,go_sem,u0',u1']) rfl ?_;exact aAg
     exact Y4
  have hmb:(m:Int)+1<=8:=by have:=HT.out.1.few;omega
  cases xU:dM p.l q with
  |false=>
   as_aux_lemma=>
    go_wp2_with(first|(go_at_call 185;refine(iX p wr q HT.out.2.1).mono ?_;rintro e w5 ⟨rfl,hb5⟩;rw[xU];have xC:=zh (HT.out.2.1.later hb5);have JN:=zh (HT.out.1.next (Ba hb5));obtain⟨c0,c1,f0,f1⟩:=bxT2 JN.out.loc;have cl:=JN.out.last hm rfl)|(go_at_call 186;refine(oT p w5 q (jO fs) true xC.out).mono ?_;rintro e w6 (⟨x,hx,rfl,sU⟩|⟨a,j1,hx,⟨rfl,wD,QR⟩,sU⟩)<;>have IM:=zh (JN.out.next sU)))
    ·exact aAC
    rw[jV xU] at hx;cases hx
  |true=>
   as_aux_lemma=>
    go_wp2_with(first|(go_at_call 185;refine(iX p wr q HT.out.2.1).mono ?_;rintro e w5 ⟨rfl,hb5⟩;rw[xU];have xC:=zh (HT.out.2.1.later hb5);have JN:=zh (HT.out.1.next (Ba hb5));obtain⟨c0,c1,f0,f1⟩:=bxT2 JN.out.loc;have cl:=JN.out.last hm rfl)|(go_at_call 144;refine(fW p w5 q _ _ xC.out).mono ?_;rintro e w5' (⟨H7,rfl,rfl⟩|⟨H7,rfl,RF⟩))|(go_at_call 186;refine(oT p w5 q (jO fs) true xC.out).mono ?_;rintro e w6 (⟨x,hx,rfl,sU⟩|⟨a,j1,hx,⟨rfl,wD,QR⟩,sU⟩)<;>have IM:=zh (JN.out.next sU))|(go_at_call 136;have H4:=laterP_ok hx;refine(HRec.out j1 (w6.alloc (cX a 0 none 0 0)) (wD.later (aA _ _)) aAM).mono ?_;rintro e w7 (⟨x2,tV,rfl,sQ⟩|⟨t,j2,tV,⟨k,sa,sn,sc,rfl,wB,uX,Q3⟩,sQ⟩)<;>have JJ:=zh (sQ.heap (fun e=>aB8) (bY w6 (cX a 0 none 0 0)))<;>have D7:=zh (IM.out.next ((Ba (aA w6 (cX a 0 none 0 0))).trans sQ))<;>have vI:=IM.out.acc.big<;>have hn6:¬b3=w6.heap.size:=aAM<;>have hn6':¬w6.heap.size=b3:=aAM<;>obtain⟨RR,FV,f0',f1'⟩:=bxT2 D7.out.loc<;>obtain⟨d0,d1,d2,e0,e1,e2⟩:=bxT3 JJ.out)|(at_builtin;have O9:Off p.S w6 (((w7.setCell ⟨w6.heap.size,1,none⟩ (.int .i64 k)).setCell ⟨w6.heap.size,2,none⟩ (.slice sa sn sc)).alloc (cX a k sa sn sc)):=Off.fresh (((Ba (S:=p.S) (aA w6 (cX a 0 none 0 0))).trans sQ).or w6.heap.size |>.trans (((Off.setCell (S:=fun b=>p.S b\/w6.heap.size<=b) w7 (.inr (Nat.le_refl _))).trans (Off.setCell (S:=fun b=>p.S b\/w6.heap.size<=b) _ (.inr (Nat.le_refl _)))).trans (Ba (aA _ _)))) (Nat.le_refl _);have yI:=zh (IM.out.next O9);have uL:=yI.out.acc.big;have tE:=yI.out.acc.own;refine wpList_append_lies _ rfl _ _ 126 rfl B 184 i0 (oBx32 ByteArray.empty 0 none 0 0) 3 48 Tryz.underlying126 vA tM sY sX rfl aAM (.slice (some ⟨g,0,none⟩) (m+1) cap) (m+1) css.flatten aBm (by simpa[hm] using tE) ⟨w7.heap.size,0,none⟩ 1 1 [.string a,.int .i64 k,.slice sa sn sc] aBm rfl (World.news_of_block (cs:=#[.string a,.int .i64 k,.slice sa sn sc]) (t:=184) (fr:=(0,0)) aBC) aA1 aAM aAY aAM (by simpa using uL) (w7.heap.size+1) aAQ ?_))
    ·have sK:=zh (HT.out.2.2.1.trans ((gK xU).trans (PR.bnd_ok (if_pos (show fs.length<8 by rw[hm];simp at H7;omega)))));have A8:=zh ((congrArg (gQ p.l q (jO fs)) (decide_eq_true (show 0<fs.length by omega))).trans hx);exact⟨rfl,Ran.bad' (sK.out.trans (PR.bnd_bad A8.out)) IM.out.off⟩
    ·have sK:=zh (HT.out.2.2.1.trans ((gK xU).trans (PR.bnd_ok (if_pos (show fs.length<8 by rw[hm];simp at H7;omega)))));have A8:=zh ((congrArg (gQ p.l q (jO fs)) (decide_eq_true (show 0<fs.length by omega))).trans hx);exact⟨rfl,Ran.bad' (sK.out.trans ((PR.bnd_ok A8.out).trans (PR.bnd_bad tV))) D7.out.off⟩
    ·have sK:=zh (HT.out.2.2.1.trans ((gK xU).trans (PR.bnd_ok (if_pos (show fs.length<8 by rw[hm];simp at H7;omega)))));have A8:=zh ((congrArg (gQ p.l q (jO fs)) (decide_eq_true (show 0<fs.length by omega))).trans hx);intro g' cap' tB sB sA sM _;obtain⟨FU,N0,wS,FE,NH⟩:=IM.out.step HS.out (by rw[hm];simp at H7;omega) sQ uX wB QR sB (by rw[hm]) sA sM;obtain⟨m0,m1,n0,n1⟩:=bxT2 FU;obtain⟨q0,q1,q2,r0,r1,r2⟩:=bxT3 NH;have WN:=zh N0;have uM:=zh tV;have HMr:=zh (more_any p _ j2 _ t k _ iQ wS FE (Nat.le_trans (nN f _ t j2 tV) aAM));clear sB sA sM FU N0 wS FE NH wB uX sQ JJ D7 O9 yI uL tE RR FV f0' f1' d0 d1 d2 e0 e1 e2 hx tV;go_wp2_with(go_at_call 187;refine HMr.out.mono ?_;rintro e tG (⟨x3,vR,rfl,sZ⟩|⟨bb,j3,vR,⟨rfl,uG⟩,sZ⟩)<;>have AL:=zh (WN.out.next sZ)<;>obtain⟨y0,y1,z0,z1⟩:=bxT2 AL.out.loc<;>obtain⟨u0',u1',v0',v1'⟩:=bxT2 AL.out.res)
     ·exact aAw
     ·rename_i wR;subst wR;have hR:=sK.out.trans ((PR.bnd_ok A8.out).trans ((PR.bnd_ok uM.out).trans ((PR.bnd_ok vR).trans (if_pos rfl))));have TK:=rM vR;refine bodyPost_ret (v:=.agg #[.int .i64 2,.slice (some ⟨g',0,none⟩) (m+1+1) cap']) (by simp[results,Tryz.results136,go_sem,u0',u1']) rfl ?_;exact aAg
     exact Y4
    exact⟨rfl,Ran.bad (HT.out.2.2.1.trans ((gK xU).trans (PR.bnd_bad (if_neg (show ¬fs.length<8 by rw[hm];simp at H7;omega))))) (JN.out.off.trans (Ba RF))⟩
theorem typed_ok(p:Prs):∀f,f<=8010->TypedOk p f
 |0,_=>fun i w h hf=>by have:=h.lt;omega
 |f+1,hf=>fun i w h vC=>by
  have hr:=typed_ok p f aAM
  cases h0:isP p.l i kIntW with
  |true=>exact typed_int p f w i h h0
  |false=>
   cases h1:isP p.l i kBool with
   |true=>exact typed_bool p f w i h h0 h1
   |false=>exact typed_more p f aAM hr w i h vC h0 h1
theorem typed_any(p:Prs)(w:World)(i:Nat)(h:p.At w i):Calls Tryz.prog 136 #[.pointer (some ⟨p.pb,0,none⟩)] w
  (Ran p.S w (lX p.l i) fun t j e w'=>∃k sa sn sc,e=.returned (.agg #[.int .i64 k,.slice sa sn sc])/\jQ (bM w.heap.size) w' t [.int .i64 k,.slice sa sn sc]/\p.At w' j/\i<j):=
 typed_ok p (p.l.length+1) (by have:=h.len;omega) i w h aAM
theorem nE{l:List Tok}{i j:Nat}{t:Ty}(h:lX l i=.ok (t,j)):cI t<=l.length+1:=nN _ _ _ _ h
end Go.Proofs.YtacgopankhpnbaaGreatDoor
namespace Go.Proofs.YtacgopankhpnbaaGreatDoor
open Go.RowKit
abbrev fJ:List bA:=[kIf,kLet,kSet,kNot,eA,cY,jJ]
theorem begins_word{l:List Tok}{i:Nat}(h1:(aJ l i).kind≠1)(h2:(aJ l i).kind≠2)(h3:(aJ l i).kind≠3):jK l i=
  ((fJ.any fun s=>decide ((aJ l i).text=s))||decide (dJ (aJ l i).text≠0)||aR (aJ l i).text):=by
 unfold jK;rw[if_neg h1,if_neg h2,if_neg h3]
theorem kOpen_list:cO.toList=[40]:=by rw[Lib.toList_data]
theorem kLBrace_list:cL.toList=[123]:=by rw[Lib.toList_data]
theorem bwCells(w:World):∀(k:Nat)(x:bA),fJ[k]? =some x->(w.alloc (.cells (fJ.map Value.string).toArray 9)).cell? ⟨w.heap.size,k,none⟩=some (.string x):=fun k x hx=>by
 rw[cell_of_row _ w.heap.size k _ _ _ (bY w _)];rw[List.getElem?_toArray,List.getElem?_map,hx];rfl
theorem begins_any(p:Prs)(w:World)(i:Nat)(h:p.At w i):Calls Tryz.prog 247 #[.pointer (some ⟨p.pb,0,none⟩)] w fun e w'=>e=.returned (.bool (jK p.l i))/\Below w.heap.size w w':=by
 have HA:=zh h;have HN:=zh (fun W(hW:p.At W i)=>dC p W i hW);have tI:=(h.toks i _ h.tok).2;have HM:=zh (fun W(hW:p.At W i)=>jU (aJ p.l i).text W aAM hW.glob);have HBt:=zh (fun W(hW:p.At W i)=>mW (aJ p.l i).text W hW.spc);have HW:=zh (fun h1 h2 h3=>begins_word (l:=p.l) (i:=i) h1 h2 h3);have sV:Hid ((aJ p.l i).kind=1->jK p.l i=true):=zh (fun e=>by unfold jK;rw[if_pos e]);have sW:Hid ((aJ p.l i).kind=2->jK p.l i=(decide ((aJ p.l i).text=cO)||decide ((aJ p.l i).text=cL))):=zh (fun e=>by unfold jK;rw[if_neg aAM,if_pos e]);have wL:Hid ((aJ p.l i).kind=3->jK p.l i=false):=zh (fun e=>by unfold jK;rw[if_neg aAM,if_neg aAM,if_pos e]);clear h tI;generalize jK p.l i=r at HW sV sW wL ⊢;generalize aJ p.l i=t at HN HM HBt HW sV sW wL;by_cases k1:t.kind=1
 ·have C5:(t.kind==1)=true:=by rw[beq_iff_eq];exact k1
  go_enter Tryz.func247,Tryz.ntmps247;go_wp2_with(go_at_call 145;refine(HN.out w HA.out).mono ?_;rintro e w1 ⟨rfl,sF⟩);go_ret;exact⟨aF (sV.out k1).symm,aB sF (aA _ _)⟩
 by_cases k2:t.kind=2
 ·have k2':(t.kind==2)=true:=by rw[beq_iff_eq];exact k2
  have C5:(t.kind==1)=false:=aA6;have hR:=sW.out k2;rw[<-bI,<-bI] at hR;have HR:=zh hR;clear hR;go_enter Tryz.func247,Tryz.ntmps247;go_wp2_with(go_at_call 145;refine(HN.out w HA.out).mono ?_;rintro e w1 ⟨rfl,sF⟩)
  ·go_ret;exact⟨aF (by rw[HR.out,kOpen_list,‹t.text.toList=[40]›];rfl),aB sF (aA _ _)⟩
  go_ret;exact⟨aF (by rw[HR.out,kOpen_list,kLBrace_list]),aB sF (aA _ _)⟩
 by_cases k3:t.kind=3
 ·have k3':(t.kind==3)=true:=by rw[beq_iff_eq];exact k3
  have k2':(t.kind==2)=false:=aCM;have C5:(t.kind==1)=false:=aA6;go_enter Tryz.func247,Tryz.ntmps247;go_wp2_with(go_at_call 145;refine(HN.out w HA.out).mono ?_;rintro e w1 ⟨rfl,sF⟩);go_ret;exact⟨aF (wL.out k3).symm,aB sF (aA _ _)⟩
 have k3':(t.kind==3)=false:=by rw[beq_eq_false_iff_ne];exact k3
 have k2':(t.kind==2)=false:=aCM;have C5:(t.kind==1)=false:=aA6;go_enter Tryz.func247,Tryz.ntmps247;go_wp2_with(go_at_call 145;refine(HN.out w HA.out).mono ?_;rintro e w1 ⟨rfl,sF⟩);have HR:=zh (HW.out k1 k2 k3);have HWd:=zh (bwCells (w1.alloc (dE t.kind t.text t.n t.pos)));have HT:=zh (aC (aA (w1.alloc (dE t.kind t.text t.n t.pos)) (.cells (fJ.map Value.string).toArray 9)) (bx (bY w1 (dE t.kind t.text t.n t.pos)) 1 (u:=.string t.text) rfl).1);have O1:=zh (aB sF (aB (aA w1 (dE t.kind t.text t.n t.pos)) (aA _ (.cells (fJ.map Value.string).toArray 9))));have EX:=zh (HA.out.later O1.out);have hz:(w1.alloc (dE t.kind t.text t.n t.pos)).heap.size=w1.heap.size+1:=aAQ;rw[hz] at HWd;have HAny:=zh (fun(k:Nat)(x:bA)(hx:fJ[k]? =some x)(e:t.text=x)=>show(fJ.any fun s=>decide (t.text=s))=true from List.any_eq_true.2 ⟨x,List.mem_of_getElem? hx,by simp[e]⟩);have HNone:=zh (fun(h:∀x,x∈fJ->decide (t.text=x)=false)=>show(fJ.any fun s=>decide (t.text=s))=false from by rw[List.any_eq_false];intro x hx;rw[h x hx];simp);clear hz;have hlen:Hid (fJ.length=7):=zh rfl;generalize hW2:(w1.alloc (dE t.kind t.text t.n t.pos)).alloc (.cells (fJ.map Value.string).toArray 9)=W2 at HWd HT O1 EX;change Code.wp _ _ _ _ ((w1.alloc (dE t.kind t.text t.n t.pos)).alloc (.cells (fJ.map Value.string).toArray 9));rw[hW2];clear hW2 sF;generalize fJ=L at *;go_loop [26] (fun idx=>∃k:Nat,k<=7/\idx=.int .i64 k/\Hid (∀x,x∈L.take k->decide (t.text=x)=false)) (fun idx=>7-(intOf idx).toNat)
 case atStart=>exact⟨0,Nat.zero_le _,rfl,zh aAQ⟩
 case round=>
  obtain⟨k,hk,rfl,HP⟩:=hrel;by_cases sE:k<7
  ·obtain⟨x,hx,-⟩:=getElem?_of_lt (l:=L) (k:=k) (by rw[hlen.out];exact sE);have hc:=HWd.out k x hx;have hT:=HT.out;have HX:=zh hx;clear hx;by_cases he:t.text=x
   ·(have he':(t.text.toList==x.toList)=true:=by rw[bI];exact decide_eq_true he);have HE:=zh he;clear he;go_wp2_with fail;go_ret;exact⟨aF (by rw[HR.out,HAny.out k x HX.out HE.out];rfl),O1.out⟩
   (have he':(t.text.toList==x.toList)=false:=by rw[bI];exact decide_eq_false he);have HE:=zh he;clear he;go_wp2_with fail
   go_round
   (case rel=>exact⟨k+1,aAM,aAV,zh (qF HX.out (decide_eq_false HE.out) HP.out)⟩);case measure=>simp[intOf];omega
  have hk7:k=7:=aAM;subst hk7;have LZ:=zh (HNone.out (fun x hx=>HP.out x (by rw[List.take_of_length_le (by rw[hlen.out];decide)];exact hx)));have hT:=HT.out;generalize dJ t.text=bv at HBt HR;by_cases hbv:bv=0
  ·(have hbv':(bv != 0)=false:=by rw[hbv];rfl);go_wp2_with(first|(go_at_call 191;refine(HBt.out W2 EX.out).mono ?_;rintro e w3 ⟨rfl,uA⟩;have HA3:=zh (EX.out.later uA);have hT3:=aC uA hT)|(go_at_call 147;refine(HM.out w3 HA3.out).mono ?_;rintro e w4 ⟨rfl,rfl⟩));go_ret;exact⟨aF (by rw[HR.out,LZ.out,decide_eq_false (by simpa using hbv)];rfl),aB O1.out uA⟩
  have hbv':(bv != 0)=true:=by rw[bne_iff_ne];exact hbv
  go_wp2_with(go_at_call 191;refine(HBt.out W2 EX.out).mono ?_;rintro e w3 ⟨rfl,uA⟩);go_ret;exact⟨aF (by rw[HR.out,LZ.out,decide_eq_true (by simpa using hbv)];rfl),aB O1.out uA⟩
theorem YN{p:Prop}(h:p:=by
 have HR:=zh hR;clear hR hn;go_wp2_with(go_at_call 147;refine(HM.out _ (EO.out.later (by repeat(first|exact Below.refl _ _|refine Below.drew ?_|refine Below.alloc ?_ aAQ _)))).mono ?_;rintro e w3 ⟨rfl,rfl⟩);go_ret
 exact⟨aF aBr,aB sV.out (by repeat(first|exact Below.refl _ _|refine Below.drew ?_|refine Below.alloc ?_ aAQ _))⟩):p:=h
theorem ZB{p:Prop}(h:p:=by
 try simp only[zn]
 refine wpAnyH_take (i:=15) (v:=.bool true) rfl aAN aAN aAN (fun _ _ _ h=>h) (Or.inl ⟨aAN,fun W hW=>aBq⟩) wE ?_;try simp only[zn]
 refine wpAnyH_done aAN ?_ _;go_wp2_with fail;go_ret
 exact⟨aF HR.out.symm,aB (aE w) sF⟩):p:=h
theorem tok_at{l:List Tok}{i:Nat}(h:i<l.length):l[i]? =some (aJ l i):=by
 unfold aJ;rw[List.getD_eq_getElem?_getD,List.getElem?_eq_getElem h];rfl
theorem dotted_any(p:Prs)(w:World)(i:Nat)(h:p.At w i):Calls Tryz.prog 244 #[.pointer (some ⟨p.pb,0,none⟩)] w fun e w'=>e=.returned (.bool (gX p.l i))/\Below w.heap.size w w':=by
 have HA:=zh h;have HI:=zh (fun W(hW:p.At W i)=>gE p W i kDot hW)
 cases hq:isP p.l i kDot with
 |false=>
  have HR:Hid (gX p.l i=false):=zh (by unfold gX;rw[hq];rfl);rw[hq] at HI;clear h hq;go_enter Tryz.func244,Tryz.ntmps244;go_wp2_with fail;have hS:p.At w.drew i:=HA.out.later (aE _);refine wp_region_held_drew (S:=fun W=>p.At W i) aAN hS fun hS=>?_;refine zq 0 (.pointer (some ⟨p.pb,0,none⟩)) rfl ?_;try simp only[zn]
  refine wpAnyH_ready (rs:=[1]) aAN aAQ ?_;refine AllReadyH.cons rfl (fun K hK=>?_) AllReadyH.nil;rw[if_pos aBm];go_simp;refine(HI.out _ hS).mono ?_;rintro e w1 ⟨rfl,sF⟩;refine hK.out _ _ (hS.later sF) (fun wE=>?_);clear hK K;try simp only[zn]
  refine wpAnyH_take (i:=2) (v:=.bool true) rfl aAN aAN aAN (fun _ _ _ h=>h) (Or.inl ⟨aAN,fun W hW=>aBq⟩) wE ?_;try simp only[zn]
  refine wpAnyH_take (i:=3) (v:=.bool true) rfl aAN aAN aAN (fun _ _ _ h=>h) (Or.inl ⟨aAN,fun W hW=>aBq⟩) wE ?_;try simp only[zn]
  refine wpAnyH_take (i:=4) (v:=undef) rfl aAN aAN aAN (fun _ _ _ h=>h) (Or.inr ⟨aAN,rfl⟩) wE ?_;try simp only[zn]
  refine wpAnyH_take (i:=5) (v:=undef) rfl aAN aAN aAN (fun _ _ _ h=>h) (Or.inr ⟨aAN,rfl⟩) wE ?_;try simp only[zn]
  refine wpAnyH_take (i:=6) (v:=undef) rfl aAN aAN aAN (fun _ _ _ h=>h) (Or.inr ⟨aAN,rfl⟩) wE ?_;try simp only[zn]
  refine wpAnyH_take (i:=7) (v:=undef) rfl aAN aAN aAN (fun _ _ _ h=>h) (Or.inr ⟨aAN,rfl⟩) wE ?_;try simp only[zn]
  refine wpAnyH_take (i:=8) (v:=undef) rfl aAN aAN aAN (fun _ _ _ h=>h) (Or.inr ⟨aAN,rfl⟩) wE ?_;try simp only[zn]
  refine wpAnyH_take (i:=9) (v:=undef) rfl aAN aAN aAN (fun _ _ _ h=>h) (Or.inr ⟨aAN,rfl⟩) wE ?_;try simp only[zn]
  refine wpAnyH_take (i:=10) (v:=undef) rfl aAN aAN aAN (fun _ _ _ h=>h) (Or.inr ⟨aAN,rfl⟩) wE ?_;try simp only[zn]
  refine wpAnyH_take (i:=11) (v:=undef) rfl aAN aAN aAN (fun _ _ _ h=>h) (Or.inr ⟨aAN,rfl⟩) wE ?_;try simp only[zn]
  refine wpAnyH_take (i:=12) (v:=undef) rfl aAN aAN aAN (fun _ _ _ h=>h) (Or.inr ⟨aAN,rfl⟩) wE ?_;try simp only[zn]
  refine wpAnyH_take (i:=13) (v:=undef) rfl aAN aAN aAN (fun _ _ _ h=>h) (Or.inr ⟨aAN,rfl⟩) wE ?_;try simp only[zn]
  refine wpAnyH_take (i:=14) (v:=undef) rfl aAN aAN aAN (fun _ _ _ h=>h) (Or.inr ⟨aAN,rfl⟩) wE ?_;exact ZB
 |true=>
  have yH:=h.bound;have hlen:=h.len;have zH:IntKind.i64.wrap ((i:Int)+1)=(i:Int)+1:=aBu;have hw2:IntKind.i64.wrap ((i:Int)+2)=(i:Int)+2:=aBu;rw[hq] at HI;by_cases hl:i+2<p.l.length
  ·have hge:decide ((p.l.length:Int)<=(i:Int)+2)=false:=decide_eq_false aAM;have hge2:¬((p.l.length:Int)<=(i:Int)+2):=aAM;have HR:Hid (gX p.l i=(decide ((aJ p.l (i+1)).kind=0)&&aR (aJ p.l (i+1)).text&&decide ((aJ p.l (i+2)).kind=2)&&decide ((aJ p.l (i+2)).text=cO))):=zh (by unfold gX;rw[hq,decide_eq_true hl];rfl);clear hq h;go_enter Tryz.func244,Tryz.ntmps244;go_wp2_with fail;have hS:p.At w.drew i:=HA.out.later (aE _);refine wp_region_held_drew (S:=fun W=>p.At W i) aAN hS fun hS=>?_;refine zq 0 (.pointer (some ⟨p.pb,0,none⟩)) rfl ?_;(try simp only[zn]);refine wpAnyH_ready (rs:=[1]) aAN aAQ ?_;refine AllReadyH.cons rfl (fun K hK=>?_) AllReadyH.nil;rw[if_pos aBm];go_simp;refine(HI.out _ hS).mono ?_;rintro e w1 ⟨rfl,sF⟩;refine hK.out _ _ (hS.later sF) (fun wE=>?_);clear hK K;(try simp only[zn]);refine wpAnyH_take (i:=2) (v:=.bool false) rfl aAN aAN aAN (fun _ _ _ h=>h) (Or.inl ⟨aAN,fun W hW=>aBq⟩) wE ?_;(try simp only[zn]);refine wpAnyH_take (i:=3) (v:=.bool false) rfl aAN aAN aAN (fun _ _ _ h=>h) (Or.inl ⟨aAN,fun W hW=>aBq⟩) wE ?_;(try simp only[zn]);refine wpAnyH_take (i:=4) (v:=.pointer (some ⟨p.pb,0,none⟩)) rfl aAN aAN aAN (fun _ _ _ h=>h) (Or.inl ⟨aAN,fun W hW=>aBq⟩) wE ?_;(try simp only[zn]);refine wpAnyH_take (i:=5) (v:=.pointer (some ⟨p.pb,0,none⟩)) rfl aAN aAN aAN (fun _ _ _ h=>h) (Or.inl ⟨aAN,fun W hW=>aBq⟩) wE ?_;(try simp only[zn]);refine wpAnyH_take (i:=6) (v:=.pointer (some ⟨p.pb,1,none⟩)) rfl aAN aAN aAN (fun _ _ _ h=>h) (Or.inl ⟨aAN,fun W hW=>aBq⟩) wE ?_;(try simp only[zn]);refine wpAnyH_take (i:=7) (v:=.int .i64 (i:Int)) rfl aAN aAN aAN (fun _ _ _ h=>h) (Or.inl ⟨aAN,fun W hW=>by have b1:=hW.box1;go_simp⟩) wE ?_;(try simp only[zn]);refine wpAnyH_take (i:=8) (v:=.int .i64 ((i:Int)+2)) rfl aAN aAN aAN (fun _ _ _ h=>h) (Or.inl ⟨aAN,fun W hW=>by rw[<-hw2];go_simp⟩) wE ?_;(try simp only[zn]);refine wpAnyH_take (i:=9) (v:=.pointer (some ⟨p.pb,0,none⟩)) rfl aAN aAN aAN (fun _ _ _ h=>h) (Or.inl ⟨aAN,fun W hW=>aBq⟩) wE ?_;(try simp only[zn]);refine wpAnyH_take (i:=10) (v:=.pointer (some ⟨p.pb,0,none⟩)) rfl aAN aAN aAN (fun _ _ _ h=>h) (Or.inl ⟨aAN,fun W hW=>aBq⟩) wE ?_;(try simp only[zn]);refine wpAnyH_take (i:=11) (v:=.pointer (some ⟨p.pb,0,none⟩)) rfl aAN aAN aAN (fun _ _ _ h=>h) (Or.inl ⟨aAN,fun W hW=>aBq⟩) wE ?_;(try simp only[zn]);refine wpAnyH_take (i:=12) (v:=.slice (some ⟨p.b,p.o,none⟩) p.l.length p.c) rfl aAN aAN aAN (fun _ _ _ h=>h) (Or.inl ⟨aAN,fun W hW=>by have b0:=hW.box0;go_simp⟩) wE ?_;(try simp only[zn]);refine wpAnyH_take (i:=13) (v:=.int .i64 (p.l.length:Int)) rfl aAN aAN aAN (fun _ _ _ h=>h) (Or.inl ⟨aAN,fun W hW=>aBq⟩) wE ?_;(try simp only[zn]);refine wpAnyH_take (i:=14) (v:=.bool false) rfl aAN aAN aAN (fun _ _ _ h=>h) (Or.inl ⟨aAN,fun W hW=>aBq⟩) wE ?_;(try simp only[zn]);refine wpAnyH_take (i:=15) (v:=.bool false) rfl aAN aAN aAN (fun _ _ _ h=>h) (Or.inl ⟨aAN,fun W hW=>aBq⟩) wE ?_;(try simp only[zn]);refine wpAnyH_done aAN ?_ _;go_wp2_with fail;have tD:p.At (w1.alloc (dE 0 ⟨#[]⟩ 0 0)) i:=wE.later (aA _ _);have uY:p.At ((w1.alloc (dE 0 ⟨#[]⟩ 0 0)).alloc (dE 0 ⟨#[]⟩ 0 0)) i:=tD.later (aA _ _);obtain⟨⟨c0,c1,c2,c3⟩,sY⟩:=wE.toks (i+1) _ (tok_at aAM);obtain⟨⟨d0,d1,d2,d3⟩,sX⟩:=wE.toks (i+2) _ (tok_at hl);have b0:=wE.box0;have b1:=wE.box1;have EO:=zh wE;clear tD uY hS wE;have hpb1:=EO.out.blt;have hbt1:p.b<w1.heap.size:=cT c0;have AX:¬p.pb=w1.heap.size:=aAM;have zO:¬p.b=w1.heap.size:=aAM;have HM:=zh (fun W(hW:p.At W i)=>jU (aJ p.l (i+1)).text W aAM hW.glob);generalize aJ p.l (i+1)=t1 at *;generalize aJ p.l (i+2)=t2 at *;have hin1:(0:Int)<=(i:Int)+1/\(i:Int)+1<(p.l.length:Int):=aAM;have hin2:(0:Int)<=(i:Int)+2/\(i:Int)+2<(p.l.length:Int):=aAM;have BE:((i:Int)+1).toNat=i+1:=aAM;have PI:((i:Int)+2).toNat=i+2:=aAM;go_region_held3 (fun W=>W.cell? ⟨p.pb,0,none⟩=some (.slice (some ⟨p.b,p.o,none⟩) p.l.length p.c)/\W.cell? ⟨p.pb,1,none⟩=some (.int .i64 (i:Int))/\W.cell? ⟨p.b,p.o+(i+1)*4,none⟩=some (.int .i64 t1.kind)/\W.cell? ⟨p.b,p.o+(i+1)*4+1,none⟩=some (.string t1.text)/\W.cell? ⟨p.b,p.o+(i+1)*4+2,none⟩=some (.int .i64 t1.n)/\W.cell? ⟨p.b,p.o+(i+1)*4+3,none⟩=some (.int .i64 t1.pos)/\W.cell? ⟨p.b,p.o+(i+2)*4,none⟩=some (.int .i64 t2.kind)/\W.cell? ⟨p.b,p.o+(i+2)*4+1,none⟩=some (.string t2.text)/\W.cell? ⟨p.b,p.o+(i+2)*4+2,none⟩=some (.int .i64 t2.n)/\W.cell? ⟨p.b,p.o+(i+2)*4+3,none⟩=some (.int .i64 t2.pos)) (go_keep) (fail)
   all_goals
    have sV:=zh (aB (aE w) sF);clear sF;by_cases k1:t1.kind=0
    ·(have C5:(t1.kind==0)=true:=by rw[beq_iff_eq];exact k1);have hR:=HR.out;rw[decide_eq_true k1] at hR
     cases hn:aR t1.text with
     |false=>
      rw[hn] at HM hR;exact YN
     |true=>
      rw[hn] at HM hR;by_cases k2:t2.kind=2
      ·(have k2':(t2.kind==2)=true:=by rw[beq_iff_eq];exact k2);rw[decide_eq_true k2,<-bI,kOpen_list] at hR;exact YN
      have k2':(t2.kind==2)=false:=aCM;rw[decide_eq_false k2] at hR;exact YN
    have C5:(t1.kind==0)=false:=aA6;have hR:=HR.out;rw[decide_eq_false k1] at hR;have HR:=zh hR;clear hR;go_wp2_with fail;go_ret;exact⟨aF aBr,aB sV.out (by repeat(first|exact Below.refl _ _|refine Below.drew ?_|refine Below.alloc ?_ aAQ _))⟩
  have hge:decide ((p.l.length:Int)<=(i:Int)+2)=true:=decide_eq_true aAM;have hge2:(p.l.length:Int)<=(i:Int)+2:=aAM;have HR:Hid (gX p.l i=false):=zh (by unfold gX;rw[hq,decide_eq_false hl];rfl);clear hq h;go_enter Tryz.func244,Tryz.ntmps244;go_wp2_with fail;have hS:p.At w.drew i:=HA.out.later (aE _);refine wp_region_held_drew (S:=fun W=>p.At W i) aAN hS fun hS=>?_;refine zq 0 (.pointer (some ⟨p.pb,0,none⟩)) rfl ?_;try simp only[zn]
  refine wpAnyH_ready (rs:=[1]) aAN aAQ ?_;refine AllReadyH.cons rfl (fun K hK=>?_) AllReadyH.nil;rw[if_pos aBm];go_simp;refine(HI.out _ hS).mono ?_;rintro e w1 ⟨rfl,sF⟩;refine hK.out _ _ (hS.later sF) (fun wE=>?_);clear hK K;try simp only[zn]
  refine wpAnyH_take (i:=2) (v:=.bool false) rfl aAN aAN aAN (fun _ _ _ h=>h) (Or.inl ⟨aAN,fun W hW=>aBq⟩) wE ?_;try simp only[zn]
  refine wpAnyH_take (i:=3) (v:=.bool false) rfl aAN aAN aAN (fun _ _ _ h=>h) (Or.inl ⟨aAN,fun W hW=>aBq⟩) wE ?_;try simp only[zn]
  refine wpAnyH_take (i:=4) (v:=.pointer (some ⟨p.pb,0,none⟩)) rfl aAN aAN aAN (fun _ _ _ h=>h) (Or.inl ⟨aAN,fun W hW=>aBq⟩) wE ?_;try simp only[zn]
  refine wpAnyH_take (i:=5) (v:=.pointer (some ⟨p.pb,0,none⟩)) rfl aAN aAN aAN (fun _ _ _ h=>h) (Or.inl ⟨aAN,fun W hW=>aBq⟩) wE ?_;try simp only[zn]
  refine wpAnyH_take (i:=6) (v:=.pointer (some ⟨p.pb,1,none⟩)) rfl aAN aAN aAN (fun _ _ _ h=>h) (Or.inl ⟨aAN,fun W hW=>aBq⟩) wE ?_;try simp only[zn]
  refine wpAnyH_take (i:=7) (v:=.int .i64 (i:Int)) rfl aAN aAN aAN (fun _ _ _ h=>h) (Or.inl ⟨aAN,fun W hW=>by have b1:=hW.box1;go_simp⟩) wE ?_;try simp only[zn]
  refine wpAnyH_take (i:=8) (v:=.int .i64 ((i:Int)+2)) rfl aAN aAN aAN (fun _ _ _ h=>h) (Or.inl ⟨aAN,fun W hW=>by rw[<-hw2];go_simp⟩) wE ?_;try simp only[zn]
  refine wpAnyH_take (i:=9) (v:=.pointer (some ⟨p.pb,0,none⟩)) rfl aAN aAN aAN (fun _ _ _ h=>h) (Or.inl ⟨aAN,fun W hW=>aBq⟩) wE ?_;try simp only[zn]
  refine wpAnyH_take (i:=10) (v:=.pointer (some ⟨p.pb,0,none⟩)) rfl aAN aAN aAN (fun _ _ _ h=>h) (Or.inl ⟨aAN,fun W hW=>aBq⟩) wE ?_;try simp only[zn]
  refine wpAnyH_take (i:=11) (v:=.pointer (some ⟨p.pb,0,none⟩)) rfl aAN aAN aAN (fun _ _ _ h=>h) (Or.inl ⟨aAN,fun W hW=>aBq⟩) wE ?_;try simp only[zn]
  refine wpAnyH_take (i:=12) (v:=.slice (some ⟨p.b,p.o,none⟩) p.l.length p.c) rfl aAN aAN aAN (fun _ _ _ h=>h) (Or.inl ⟨aAN,fun W hW=>by have b0:=hW.box0;go_simp⟩) wE ?_;try simp only[zn]
  refine wpAnyH_take (i:=13) (v:=.int .i64 (p.l.length:Int)) rfl aAN aAN aAN (fun _ _ _ h=>h) (Or.inl ⟨aAN,fun W hW=>aBq⟩) wE ?_;try simp only[zn]
  refine wpAnyH_take (i:=14) (v:=.bool true) rfl aAN aAN aAN (fun _ _ _ h=>h) (Or.inl ⟨aAN,fun W hW=>aBq⟩) wE ?_;exact ZB
end Go.Proofs.YtacgopankhpnbaaGreatDoor
