/- Texts of this seat, joined. -/
import Derived.Test.YtacgopankhpnbaaGreatDoorLexC
import Derived.Test.YtacgopankhpnbaaGreatDoorST
set_option maxHeartbeats 1600000
set_option maxRecDepth 100000
set_option linter.unusedVariables false
set_option linter.unusedSimpArgs false
namespace Go.Proofs.YtacgopankhpnbaaGreatDoor
open Go.RowKit
abbrev tokCells(t:Tok):List Value:=[.int .i64 t.kind,.string t.text,.int .i64 t.n,.int .i64 t.pos]
def encTok(_:Nat->Prop)(_:World)(x:Tok)(cs:List Value):Prop:=cs=tokCells x/\x.text.size<=8000
theorem lL:eD encTok:=fun _ _ _ _ _ _ _ h=>h
theorem tokInfo:(Tryz.prog.info? 201).map (fun i=>(i.zero,i.size,i.bytes))=some (some (.agg #[.int .i64 0,.string ByteArray.empty,.int .i64 0,.int .i64 0]),4,40):=VH
structure LexSt (s:ByteArray) (W:World) (i:Nat) (out:List Tok) (css:List (List Value)) (v:Value) (wr:World):Prop where
 acc:Gro 4 201 encTok W.heap.size out css v wr
 below:Below W.heap.size W wr
 len:out.length<=i
 le:i<=s.size
 rest:∃f,iF s (s.size+1) 0 []=iF s (f+1) i out/\s.size<=f+i
 ok:∀t,t∈out->t.kind≠3/\t.text.size<=s.size
def lexV(B:Nat)(s:ByteArray)(r:Except (Int×Int) (List Tok))(e:Ending)(w':World):Prop:=match r with
 | .error x=>e=.returned (.tuple #[.slice none 0 0,.int .i64 x.1,.int .i64 x.2])
 | .ok l=>∃v,e=.returned (.tuple #[v,.int .i64 0,.int .i64 0])/\aK 4 encTok (bD B) w' v l/\TokOk s l
theorem nextV_err(e:Int):nF (.error e)=.tuple #[tokV 0 ⟨#[]⟩ 0 0,.int .i64 e]:=rfl
theorem nextV_ok(k n:Int)(t:ByteArray):nF (.ok (k,t,n))=.tuple #[tokV k t n 0,.int .i64 0]:=rfl
theorem grown_belowB{u w w':World}{row:Option Nat}(h:Below u.heap.size u w)(hg:w.grownBy w' row)(hr:∀b,row=some b->u.heap.size<=b):Below u.heap.size u w':=
 ⟨hg.os.trans h.os,hg.tape.trans h.tape,hg.output.trans h.output,Nat.le_trans h.size hg.size,fun k hk=>(hg.block k (by have:=h.size;omega) (fun e=>by have:=hr k e.symm;omega)).trans (h.block k hk)⟩
theorem lex_any(s:ByteArray)(w:World)(hs:s.size<=140737488355328)(hg:SignsAt w):
  Calls Tryz.prog 107 #[.string s] w fun e w'=>lexV w.heap.size s (lexL s) e w'/\Below w.heap.size w w':=by
 obtain⟨i0,tF,rS,qI,qH⟩:=info_parts tokInfo;have HG:=zh hg;clear hg;by_cases qK:(8000:Int)<(s.size:Int)
 ·have HL:Hid (lexL s=.error (0,6)):=zh (by unfold lexL;rw[if_pos VG]);go_enter Tryz.func107,Tryz.ntmps107;go_wp2_with fail;refine bodyPost_ret (v:=.tuple #[.slice none 0 0,.int .i64 0,.int .i64 6]) YA rfl ⟨?_,Below.refl _ _⟩;rw[HL.out];rfl
 ·have qX:s.size<=8000:=VG;have HL:Hid (lexL s=iF s (s.size+1) 0 []):=zh (by unfold lexL;rw[if_neg VG]);go_enter Tryz.func107,Tryz.ntmps107;go_wp2_with fail;go_loopw [5,6] (fun v iv wr=>∃(i:Nat)(out:List Tok)(css:List (List Value)),iv=.int .i64 i/\Hid (LexSt s w i out css v wr)) (fun _ iv _=>s.size-(intOf iv).toNat)
  case atStart=>exact⟨0,[],[],rfl,zh ⟨Gro.first _ _ _ _,Below.refl _ _,Nat.le_refl _,Nat.zero_le _,⟨s.size,rfl,VG⟩,fun t h=>YD⟩⟩
  case round=>
   obtain⟨i,out,css,rfl,HS⟩:=hrel;(rename World=>wr);have hi:i<=s.size:=HS.out.le;obtain⟨f,hf,hfi⟩:=HS.out.rest;have HF:=zh hf;clear hf;have HR:Hid (gW s i=s.extract i s.size):=zh rfl;have hn:=spanN_le iW (gW s i).data.toList;rw[<-gT,kE] at hn;have pZ:=zh (span_any 128 iW (gW s i) wr (by rw[kE];omega) enters_blank blank_any);rw[HR.out] at pZ;have HE:=zh (fun h=>lexFrom_end (s:=s) (f:=f) (i:=i) (out:=out) h);have tD:=zh (fun e h hn=>lexFrom_bad (s:=s) (f:=f) (i:=i) (out:=out) (e:=e) h hn);have HOn:=zh (fun k n t h hn=>lexFrom_on (s:=s) (f:=f) (i:=i) (out:=out) (k:=k) (n:=n) (t:=t) h hn);rw[HR.out] at hn HE tD HOn;generalize dI iW (s.extract i s.size).data.toList=n at hn pZ HE tD HOn;have KO:=HS.out.below.size;by_cases wU:i+n=s.size
   ·have hend2:(i:Int)+(n:Int)=(s.size:Int):=VG;have J8:=zh wU;(have wG:out.length<=8000:=by have:=HS.out.len;omega);go_wp2_with(first|(go_at_call 127;refine pZ.out.mono ?_;rintro e w' ⟨rfl,rfl⟩)|(at_builtin;refine wpList_append_lies _ rfl _ _ 157 rfl w.heap.size 201 i0 (.agg #[.int .i64 0,.string ByteArray.empty,.int .i64 0,.int .i64 0]) 4 40 Tryz.underlying157 tF rS qI qH rfl VG _ out.length css.flatten WF (HS.out.acc.own.alloc _) ⟨wr.heap.size,0,none⟩ 1 1 [.int .i64 3,.string ⟨#[]⟩,.int .i64 0,.int .i64 (s.size:Int)] WF rfl (World.news_of_block (cs:=#[.int .i64 3,.string ⟨#[]⟩,.int .i64 0,.int .i64 (s.size:Int)]) (t:=201) (fr:=(0,0)) (heap_alloc_new wr _)) VX VG VR VG VZ (wr.heap.size+1) VL ?_));intro g cap w1 pP pO qA _;have HA:=HS.out.acc.later lL (aA wr (.cells #[.int .i64 3,.string ⟨#[]⟩,.int .i64 0,.int .i64 (s.size:Int)] 201));have sV:=zh ((HA.added lL (x:=⟨3,⟨#[]⟩,0,s.size⟩) ⟨rfl,Nat.zero_le _⟩ rfl pP pO XT).row lL);have tG:=zh (TokOk.of (s:=s) (out:=out) (p:=s.size) (by have:=HS.out.len;omega) HS.out.ok);have qQ:=zh (grown_belowB (aB HS.out.below (aA wr (.cells #[.int .i64 3,.string ⟨#[]⟩,.int .i64 0,.int .i64 (s.size:Int)] 201))) pO (fun b hb=>(HA.lt b hb).1));clear pP pO qA HA;go_wp2_with fail;refine bodyPost_ret (v:=.tuple #[.slice (some ⟨g,0,none⟩) (out.length+1) cap,.int .i64 0,.int .i64 0]) YA rfl ⟨?_,qQ.out⟩;rw[HL.out,HF.out,HE.out J8.out];exact⟨_,rfl,sV.out,tG.out⟩
   ·have hend2:¬(i:Int)+(n:Int)=(s.size:Int):=VG;have J8:=zh wU;have pT:i+n<s.size:=VG;have HC:Hid ((i:Int)+(n:Int)=((i+n:Nat):Int)):=zh VG;(have rL:0<(gW s (i+n)).size:=by rw[kE];omega);have HN:=zh (lexnext_any (gW s (i+n)) wr (by rw[kE];omega) rL (HG.out.later HS.out.below));have CV:=zh (fun k t n'=>nextTok_ok (s:=gW s (i+n)) rL (k:=k) (t:=t) (n:=n'));clear rL
    cases hq:fU (gW s (i+n)) with
    |error e0=>
     rw[hq,nextV_err] at HN;rw[show gW s (i+n)=s.extract (i+n) s.size from rfl] at HN;have HQ:=zh (tD.out e0 wU hq);have LY:=nextTok_err hq;clear hq tD HOn HE CV;go_wp2_with(first|(go_at_call 127;refine pZ.out.mono ?_;rintro e w' ⟨rfl,rfl⟩)|(go_at_call 129;refine HN.out.mono ?_;rintro e w' ⟨rfl,hb⟩));have qQ:=zh (aB HS.out.below (aB hb (aA w' (.cells #[.int .i64 0,.string ⟨#[]⟩,.int .i64 0,.int .i64 0] 201))));refine bodyPost_ret (v:=.tuple #[.slice none 0 0,.int .i64 ((i:Int)+(n:Int)),.int .i64 e0]) YA rfl ⟨?_,qQ.out⟩;rw[HL.out,HF.out,HQ.out,HC.out];rfl
    |ok r=>
     obtain⟨k,t,m⟩:=r;rw[hq,nextV_ok] at HN;rw[show gW s (i+n)=s.extract (i+n) s.size from rfl] at HN;have HQ:=zh (HOn.out k m t wU hq);have HT:=zh (CV.out k t m hq);clear hq tD HOn HE CV;(have ht1:(i:Int)+(n:Int)+(t.size:Int)<=(s.size:Int):=by have:=HT.out.2.2;rw[kE] at this;omega);(have wG:out.length<=8000:=by have:=HS.out.len;omega);go_wp2_with(first|(go_at_call 127;refine pZ.out.mono ?_;rintro e w' ⟨rfl,rfl⟩)|(go_at_call 129;refine HN.out.mono ?_;rintro e w1 ⟨rfl,hb⟩;have HA:=zh (HS.out.acc.later lL hb);have hw1:=hb.size)|(at_builtin;refine wpList_append_lies _ rfl _ _ 157 rfl w.heap.size 201 i0 (.agg #[.int .i64 0,.string ByteArray.empty,.int .i64 0,.int .i64 0]) 4 40 Tryz.underlying157 tF rS qI qH rfl VG _ out.length css.flatten WF ((HA.out.own.alloc _).alloc _) ⟨w1.heap.size+1,0,none⟩ 1 1 [.int .i64 k,.string t,.int .i64 m,.int .i64 ((i:Int)+(n:Int))] WF rfl (World.news_of_block (cs:=#[.int .i64 k,.string t,.int .i64 m,.int .i64 ((i:Int)+(n:Int))]) (t:=201) (fr:=(0,0)) (by simpa using heap_alloc_new (w1.alloc (.cells #[.int .i64 k,.string t,.int .i64 m,.int .i64 ((i:Int)+(n:Int))] 201)) _)) VX VG VR VG VZ (w1.heap.size+1+1) VL ?_));intro g cap w2 pP pO qA _;have BK:=((HA.out.later lL (aA w1 (.cells #[.int .i64 k,.string t,.int .i64 m,.int .i64 ((i:Int)+(n:Int))] 201))).later lL (aA _ (.cells #[.int .i64 k,.string t,.int .i64 m,.int .i64 ((i:Int)+(n:Int))] 201)));(have htx:t.size<=8000:=by have:=HT.out.2.2;rw[kE] at this;omega);have sV:=zh (BK.added lL (x:=⟨k,t,m,((i+n:Nat):Int)⟩) ⟨by rw[HC.out],htx⟩ rfl pP pO XT);have qQ:=zh (grown_belowB (aB HS.out.below (aB hb (aB (aA w1 (.cells #[.int .i64 k,.string t,.int .i64 m,.int .i64 ((i:Int)+(n:Int))] 201)) (aA _ (.cells #[.int .i64 k,.string t,.int .i64 m,.int .i64 ((i:Int)+(n:Int))] 201))))) pO (fun b hb=>(BK.lt b hb).1))
     have hcT:w2.cell? ⟨w1.heap.size,1,none⟩=some (.string t):=by
      refine pO.cell (aC (aA _ _) (v:=.string t) ?_) (fun e=>by have:=(HA.out.lt _ e.symm).2;simp at this);exact(cell_of_row _ w1.heap.size 1 _ _ _ (heap_alloc_new w1 _)).trans rfl
     clear pP pO qA BK htx HA HN pZ;go_wp2_with fail;go_roundw
     case rel=>
      refine⟨i+n+t.size,out++[⟨k,t,m,((i+n:Nat):Int)⟩],_,VT,zh ⟨sV.out,qQ.out,?_,VG,?_,?_⟩⟩
      ·have h1:=HS.out.len;have h2:=HT.out.2.1;rw[List.length_append,List.length_singleton];omega
      ·obtain⟨f',hf'⟩:∃f',f=f'+1:=⟨f-1,VG⟩;subst hf';refine⟨f',by rw[HF.out,HQ.out],?_⟩;have h2:=HT.out.2.1;omega
      ·intro x hx;rcases List.mem_append.1 hx with h|h
       ·exact HS.out.ok x h
       ·rw[List.mem_singleton.1 h];refine⟨HT.out.1,?_⟩;have:=HT.out.2.2;rw[kE] at this;show t.size<=s.size;omega
     case measure=>have h2:=HT.out.2.1;simp[intOf];omega
abbrev tokVal(t:Tok):Value:=tokV t.kind t.text t.n t.pos
structure Prs where
 l:List Tok
 b:Nat
 o:Nat
 c:Nat
 pb:Nat
structure Prs.At (p:Prs) (w:World) (i:Nat):Prop where
 box:w.heap[p.pb]? =some (.cells #[.slice (some ⟨p.b,p.o,none⟩) p.l.length p.c,.int .i64 (i:Int)] 162)
 toks:∀k t,p.l[k]? =some t->(w.cell? ⟨p.b,p.o+k*4,none⟩=some (.int .i64 t.kind)/\w.cell? ⟨p.b,p.o+k*4+1,none⟩=some (.string t.text)/\w.cell? ⟨p.b,p.o+k*4+2,none⟩=some (.int .i64 t.n)/\w.cell? ⟨p.b,p.o+k*4+3,none⟩=some (.int .i64 t.pos))/\t.text.size<=8000
 ne:p.b≠p.pb
 lt:i<p.l.length
 len:p.l.length<=8001
 cap:p.l.length<=p.c/\p.c<=9223372036854775807
 last:∀k t,p.l[k]? =some t->t.kind≠3->k+1<p.l.length
 glob:dH w
 spc:Lib.TabIs Tryz.prog w "strings.asciiSpace" .u8 Lib.asciiSpaceTab
 gne:∀k,k<11->k≠p.pb
abbrev Prs.S(p:Prs):Nat->Prop:=fun k=>k=p.pb
section
variable {p:Prs} {w w':World} {i:Nat}
theorem dH.off{S:Nat->Prop}(h:dH w)(ho:Off S w w')(hS:∀k,k<11->¬S k):dH w':=by
 have hb:=h.big;refine⟨Nat.le_trans h.big ho.size,?_,?_,?_,fun i x hx=>ho.cell (hS _ VG) (h.signs i x hx),fun i x hx=>ho.cell (hS _ VG) (h.words i x hx)⟩
 ·obtain⟨m,hm⟩:=h.maxLen;exact⟨m,ho.cell (hS _ VG) hm⟩
 ·have:Below 11 w w':=⟨ho.os,ho.tape,ho.output,ho.size,fun k hk=>ho.block k VG (hS k hk)⟩;exact var?_below (g:=4) this VH VG h.pow10
 ·have:Below 11 w w':=⟨ho.os,ho.tape,ho.output,ho.size,fun k hk=>ho.block k VG (hS k hk)⟩;exact var?_below (g:=3) this VH VG h.spc
theorem spc_off{S:Nat->Prop}(h:Lib.TabIs Tryz.prog w "strings.asciiSpace" .u8 Lib.asciiSpaceTab)(hb:11<=w.heap.size)(ho:Off S w w')(hS:∀k,k<11->¬S k):Lib.TabIs Tryz.prog w' "strings.asciiSpace" .u8 Lib.asciiSpaceTab:=by
 have:Below 11 w w':=⟨ho.os,ho.tape,ho.output,ho.size,fun k hk=>ho.block k VG (hS k hk)⟩;exact var?_below (g:=3) this VH VG h
theorem Prs.At.blt(h:p.At w i):p.pb<w.heap.size:=(Array.getElem?_eq_some_iff.1 h.box).1
theorem Prs.At.tok(h:p.At w i):p.l[i]? =some (aH p.l i):=by
 unfold aH;rw[List.getD_eq_getElem?_getD,List.getElem?_eq_getElem h.lt];rfl
theorem Prs.At.later(h:p.At w i)(hb:Below w.heap.size w w'):p.At w' i:=
 ⟨(hb.block _ h.blt).trans h.box,fun k t hk=>by
  obtain⟨⟨a1,a2,a3,a4⟩,a5⟩:=h.toks k t hk
  exact⟨⟨aC hb a1,aC hb a2,aC hb a3,aC hb a4⟩,a5⟩,h.ne,h.lt,h.len,h.cap,h.last,h.glob.later hb,spc_off h.spc h.glob.big (Off.of_below (S:=fun _=>False) hb) (fun _ _ h=>h),h.gne⟩
theorem Prs.At.off{S:Nat->Prop}(h:p.At w i)(ho:Off S w w')(h1:¬S p.pb)(h2:¬S p.b)(h3:∀k,k<11->¬S k):p.At w' i:=
 ⟨ho.heap h1 h.box,fun k t hk=>by
  obtain⟨⟨a1,a2,a3,a4⟩,a5⟩:=h.toks k t hk
  exact⟨⟨ho.cell h2 a1,ho.cell h2 a2,ho.cell h2 a3,ho.cell h2 a4⟩,a5⟩,h.ne,h.lt,h.len,h.cap,h.last,h.glob.off ho h3,spc_off h.spc h.glob.big ho h3,h.gne⟩
theorem Prs.At.box0(h:p.At w i):w.cell? ⟨p.pb,0,none⟩=some (.slice (some ⟨p.b,p.o,none⟩) p.l.length p.c):=by simp[World.cell?,h.box]
theorem Prs.At.box1(h:p.At w i):w.cell? ⟨p.pb,1,none⟩=some (.int .i64 (i:Int)):=by simp[World.cell?,h.box]
theorem Prs.At.froz(h:p.At w i):w.frozen? ⟨p.pb,1,none⟩=false:=by simp[World.frozen?,h.box]
theorem Prs.At.step(h:p.At w i)(hl:i+1<p.l.length):p.At (w.setCell ⟨p.pb,1,none⟩ (.int .i64 ((i:Int)+1))) (i+1)/\Off p.S w (w.setCell ⟨p.pb,1,none⟩ (.int .i64 ((i:Int)+1))):=by
 have ho:Off p.S w (w.setCell ⟨p.pb,1,none⟩ (.int .i64 ((i:Int)+1))):=Off.setCell w rfl;refine⟨⟨?_,fun k t hk=>?_,h.ne,hl,h.len,h.cap,h.last,h.glob.off ho (fun k hk=>h.gne k hk),spc_off h.spc h.glob.big ho (fun k hk=>h.gne k hk),h.gne⟩,ho⟩
 ·rw[aO h.box,Int.natCast_add,Int.natCast_one];rfl
 ·obtain⟨⟨a1,a2,a3,a4⟩,a5⟩:=h.toks k t hk;exact⟨⟨ho.cell h.ne a1,ho.cell h.ne a2,ho.cell h.ne a3,ho.cell h.ne a4⟩,a5⟩
end
abbrev faultE(x:Int×Int):Ending:=.panicked [{v:=.iface 205 (.agg #[.int .i64 x.1,.int .i64 x.2]),recovered:=false}]
def Ran{α:Type}(S:Nat->Prop)(w:World)(r:PR α)(V:α->Nat->Ending->World->Prop)(e:Ending)(w':World):Prop:=
 (∃x:Int×Int,r=.error x/\e=.panicked [{v:=.iface 205 (.agg #[.int .i64 x.1,.int .i64 x.2]),recovered:=false}]/\Off S w w')\/(∃a j,r=.ok (a,j)/\V a j e w'/\Off S w w')
theorem Ran.bad{α:Type}{S:Nat->Prop}{w w':World}{r:PR α}{V:α->Nat->Ending->World->Prop}{p e:Int}(hr:r=.error (p,e))(ho:Off S w w'):
  Ran S w r V (.panicked [{v:=.iface 205 (.agg #[.int .i64 p,.int .i64 e]),recovered:=false}]) w':=.inl ⟨(p,e),hr,rfl,ho⟩
theorem Ran.good{α:Type}{S:Nat->Prop}{w w':World}{r:PR α}{V:α->Nat->Ending->World->Prop}{a:α}{j:Nat}{e:Ending}(hr:r=.ok (a,j))(hv:V a j e w')(ho:Off S w w'):Ran S w r V e w':=.inr ⟨a,j,hr,hv,ho⟩
theorem cO(p:Prs)(w:World)(i:Nat)(h:p.At w i):Calls Tryz.prog 145 #[.pointer (some ⟨p.pb,0,none⟩)] w fun e w'=>e=.returned (.agg #[.int .i64 (aH p.l i).kind,.string (aH p.l i).text,.int .i64 (aH p.l i).n,.int .i64 (aH p.l i).pos])/\Below w.heap.size w w':=by
 have h2:=h.later (aA w (.cells #[.int .i64 0,.string ⟨#[]⟩,.int .i64 0,.int .i64 0] 201));obtain⟨⟨c1,c2,c3,c4⟩,-⟩:=h.toks i _ h.tok;have b0:=h.box0;have b1:=h.box1;obtain⟨⟨d1,d2,d3,d4⟩,-⟩:=h2.toks i _ h2.tok;have e0:=h2.box0;have e1:=h2.box1;have pT:i<p.l.length:=h.lt;have xC:(0:Int)<=(i:Int)/\(i:Int)<(p.l.length:Int):=VG;generalize aH p.l i=t at c1 c2 c3 c4 d1 d2 d3 d4 ⊢;clear h h2;obtain⟨l,b,o,c,pb⟩:=p;simp only at *;go_enter Tryz.func145,Tryz.ntmps145
 go_wp2
 go_region
 go_wp2
 refine bodyPost_ret (v:=tokVal t) (by simp[results,Tryz.results145,go_sem]) rfl ⟨rfl,?_⟩;exact(aA _ _).drew
theorem tokF0(w:World)(a b c d:Value):(Instr.field 201 (.agg #[a,b,c,d]) 0).run Tryz.prog w=.ok a w:=VH
theorem tokF1(w:World)(a b c d:Value):(Instr.field 201 (.agg #[a,b,c,d]) 1).run Tryz.prog w=.ok b w:=VH
theorem tokF3(w:World)(a b c d:Value):(Instr.field 201 (.agg #[a,b,c,d]) 3).run Tryz.prog w=.ok d w:=VH
theorem stop_any(p:Prs)(w:World)(i:Nat)(e:Int)(h:p.At w i):Calls Tryz.prog 192 #[.pointer (some ⟨p.pb,0,none⟩),.int .i64 e] w fun en w'=>en=faultE ((aH p.l i).pos,e)/\Below w.heap.size w w':=by
 have HN:=zh (cO p w i h);clear h;generalize aH p.l i=t at HN ⊢;obtain⟨l,b,o,c,pb⟩:=p;have F3:=tokF3;go_enter Tryz.func192,Tryz.ntmps192;go_wp2_with(go_at_call 145;refine HN.out.mono ?_;rintro e' w' ⟨rfl,hb⟩);exact⟨rfl,rfl,hb⟩
theorem pK(p:Prs)(w:World)(e:Int):Calls Tryz.prog 144 #[.pointer (some ⟨p.pb,0,none⟩),.bool true,.int .i64 e] w fun en w'=>en=.returned (.tuple #[])/\w=w':=by
 obtain⟨l,b,o,c,pb⟩:=p;go_enter Tryz.func144,Tryz.ntmps144;go_wp2_with fail;go_end0;exact⟨rfl,rfl⟩
theorem pL(p:Prs)(w:World)(i:Nat)(e:Int)(h:p.At w i):Calls Tryz.prog 144 #[.pointer (some ⟨p.pb,0,none⟩),.bool false,.int .i64 e] w fun en w'=>en=faultE ((aH p.l i).pos,e)/\Below w.heap.size w w':=by
 have HN:=zh (stop_any p w i e h);clear h;generalize aH p.l i=t at HN ⊢;obtain⟨l,b,o,c,pb⟩:=p;go_enter Tryz.func144,Tryz.ntmps144;go_wp2_with(go_at_call 192;refine HN.out.mono ?_;rintro e' w' ⟨rfl,hb⟩);exact⟨rfl,rfl,hb⟩
theorem eY(p:Prs)(w:World)(i:Nat)(b:Bool)(e:Int)(h:p.At w i):Calls Tryz.prog 144 #[.pointer (some ⟨p.pb,0,none⟩),.bool b,.int .i64 e] w fun en w'=>(b=true/\en=.returned (.tuple #[])/\w=w')\/(b=false/\en=faultE ((aH p.l i).pos,e)/\Below w.heap.size w w'):=by
 cases b with
 |true=>exact(pK p w e).mono fun en w' h=>.inl ⟨rfl,h⟩
 |false=>exact(pL p w i e h).mono fun en w' h=>.inr ⟨rfl,h⟩
theorem fI(p:Prs)(w:World)(i:Nat)(s:ByteArray)(h:p.At w i):Calls Tryz.prog 133 #[.pointer (some ⟨p.pb,0,none⟩),.string s] w fun e w'=>e=.returned (.bool (isP p.l i s))/\Below w.heap.size w w':=by
 have HA:=zh h;have HN:=zh (fun W(hW:p.At W i)=>cO p W i hW);have HI:Hid (isP p.l i s=(decide ((aH p.l i).kind≠3)&&decide ((aH p.l i).text=s))):=zh rfl;clear h;generalize isP p.l i s=q at HI ⊢;generalize aH p.l i=t at HN HI;have F0:=tokF0;have F1:=tokF1;by_cases hk:t.kind=3
 ·go_enter Tryz.func133,Tryz.ntmps133;go_wp2_with(go_at_call 145;refine(HN.out w HA.out).mono ?_;rintro e w1 ⟨rfl,pS⟩);go_ret;exact⟨aD (by rw[HI.out,decide_eq_false (by simp[hk])];rfl),pS⟩
 ·have zN:(t.kind != 3)=true:=by rw[bne_iff_ne];exact hk
  go_enter Tryz.func133,Tryz.ntmps133;go_wp2_with(first|(go_at_call 145;refine(HN.out w HA.out).mono ?_;rintro e w1 ⟨rfl,pS⟩;have A6:=zh (HA.out.later pS))|(go_at_call 145;refine(HN.out w1 A6.out).mono ?_;rintro e w2 ⟨rfl,pR⟩));go_ret;exact⟨aD (by rw[HI.out,decide_eq_true hk,cE];rfl),aB pS pR⟩
end Go.Proofs.YtacgopankhpnbaaGreatDoor
namespace Go.Proofs.YtacgopankhpnbaaGreatDoor
open Go.RowKit
theorem SZ{p:Prop}(h:p:=by
 obtain⟨m,hm⟩:=hg.maxLen;have HW:=zh (word_any s w VG);have HC:=zh (Tryz.strings_Contains kK ((bs [32]++s)++bs [32]) m w (by rw[reserved_size];decide) hm);have HN:Hid (aP s=(kC s&& !Lib.contains kK.data.toList ((bs [32]++s)++bs [32]).data.toList)):=zh rfl;clear hm hg;generalize Lib.contains kK.data.toList ((bs [32]++s)++bs [32]).data.toList=q at HC HN
 cases hw:kC s with
 |false=>
  rw[hw] at HW HN;clear hw;go_enter Tryz.func147,Tryz.ntmps147;go_wp2_with(go_at_call 182;refine HW.out.mono ?_;rintro e w1 ⟨rfl,rfl⟩);go_ret;exact⟨aD (by rw[HN.out];rfl),rfl⟩
 |true=>
  rw[hw] at HW HN;clear hw;go_enter Tryz.func147,Tryz.ntmps147;go_wp2_with(first|(go_at_call 182;refine HW.out.mono ?_;rintro e w1 ⟨rfl,rfl⟩)|(go_at_call 196;refine HC.out.mono ?_;rintro e w2 ⟨rfl,rfl⟩));go_ret
  exact⟨aD (by rw[HN.out];rfl),rfl⟩):p:=h
section
variable {p:Prs} {w:World} {i:Nat} {s:ByteArray}
theorem isP_lt(h:p.At w i)(hq:isP p.l i s=true):i+1<p.l.length:=by
 refine h.last i _ h.tok ?_;unfold isP at hq;simp only[Bool.and_eq_true,decide_eq_true_eq] at hq;exact hq.1
theorem isNameP_lt(h:p.At w i)(hq:cY p.l i=true):i+1<p.l.length:=by
 refine h.last i _ h.tok ?_;unfold cY at hq;simp only[Bool.and_eq_true,decide_eq_true_eq] at hq;omega
theorem Prs.At.bound(h:p.At w i):(0:Int)<=(i:Int)/\(i:Int)<8001:=by have:=h.lt;have:=h.len;omega
end
theorem eX(p:Prs)(w:World)(i:Nat)(s:ByteArray)(h:p.At w i)(hq:isP p.l i s=true):
  Calls Tryz.prog 141 #[.pointer (some ⟨p.pb,0,none⟩),.string s] w fun e w'=>e=.returned (.bool true)/\p.At w' (i+1)/\Off p.S w w':=by
 have HA:=zh h;have HI:=zh (fI p w i s h);rw[hq] at HI;have hl:=isP_lt h hq;have hb:=h.bound;clear h hq;go_enter Tryz.func141,Tryz.ntmps141;go_wp2_with(go_at_call 133;refine HI.out.mono ?_;rintro e w1 ⟨rfl,pS⟩;have A6:=zh (HA.out.later pS);have b1:=A6.out.box1;have f1:=A6.out.froz);go_ret;exact⟨rfl,(A6.out.step hl).1,(Off.of_below pS).trans (A6.out.step hl).2⟩
theorem aX(p:Prs)(w:World)(i:Nat)(s:ByteArray)(h:p.At w i)(hq:isP p.l i s=false):
  Calls Tryz.prog 141 #[.pointer (some ⟨p.pb,0,none⟩),.string s] w fun e w'=>e=.returned (.bool false)/\p.At w' i/\Off p.S w w':=by
 have HA:=zh h;have HI:=zh (fI p w i s h);rw[hq] at HI;clear h hq;go_enter Tryz.func141,Tryz.ntmps141;go_wp2_with(go_at_call 133;refine HI.out.mono ?_;rintro e w1 ⟨rfl,pS⟩);go_ret;exact⟨rfl,HA.out.later pS,Off.of_below pS⟩
theorem mN(p:Prs)(w:World)(i:Nat)(s:ByteArray)(h:p.At w i):
  Calls Tryz.prog 141 #[.pointer (some ⟨p.pb,0,none⟩),.string s] w fun e w'=>e=.returned (.bool (isP p.l i s))/\p.At w' (if isP p.l i s then i+1 else i)/\Off p.S w w':=by
 cases hq:isP p.l i s with
 |true=>exact eX p w i s h hq
 |false=>exact aX p w i s h hq
theorem cR(p:Prs)(w:World)(i:Nat)(s:ByteArray)(h:p.At w i):
  Calls Tryz.prog 131 #[.pointer (some ⟨p.pb,0,none⟩),.string s] w (Ran p.S w (dB p.l i s) fun _ j e w'=>e=.returned (.tuple #[])/\p.At w' j):=by
 cases hq:isP p.l i s with
 |true=>
  have HW:Hid (dB p.l i s=.ok ((),i+1)):=zh (by unfold dB;rw[hq];rfl);have HH:=zh (eX p w i s h hq);clear h hq;go_enter Tryz.func131,Tryz.ntmps131;go_wp2_with(first|(go_at_call 141;refine HH.out.mono ?_;rintro e w1 ⟨rfl,qD,pV⟩)|(go_at_call 144;refine(pK p _ _).mono ?_;rintro e w2 ⟨rfl,rfl⟩));go_end0;exact Ran.good HW.out ⟨rfl,qD⟩ pV
 |false=>
  have HW:Hid (dB p.l i s=.error ((aH p.l i).pos,11)):=zh (by unfold dB;rw[hq];rfl);have HH:=zh (aX p w i s h hq);clear h hq;go_enter Tryz.func131,Tryz.ntmps131;go_wp2_with(first|(go_at_call 141;refine HH.out.mono ?_;rintro e w1 ⟨rfl,qD,pV⟩)|(go_at_call 144;refine(pL p _ i _ qD).mono ?_;rintro e w2 ⟨rfl,pR⟩));exact⟨rfl,Ran.bad HW.out (pV.trans (Off.of_below pR))⟩
theorem end_any(p:Prs)(w:World)(i:Nat)(fits:Bool)(s:ByteArray)(h:p.At w i):
  Calls Tryz.prog 137 #[.pointer (some ⟨p.pb,0,none⟩),.bool fits,.string s] w (Ran p.S w (lZ p.l i fits s) fun _ j e w'=>e=.returned (.tuple #[])/\p.At w' j):=by
 have HI:=zh (fI p w i s h);have HA:=zh h;have hb:=h.bound
 cases hq:isP p.l i s with
 |false=>
  have HW:Hid (lZ p.l i fits s=.error ((aH p.l i).pos,11)):=zh (by unfold lZ;rw[hq];rfl);rw[hq] at HI;clear h hq;go_enter Tryz.func137,Tryz.ntmps137;go_wp2_with(first|(go_at_call 133;refine HI.out.mono ?_;rintro e w1 ⟨rfl,pS⟩;have qD:=zh (HA.out.later pS))|(go_at_call 144;refine(pL p _ i _ qD.out).mono ?_;rintro e w2 ⟨rfl,pR⟩));exact⟨rfl,Ran.bad HW.out (Off.of_below (aB pS pR))⟩
 |true=>
  have hl:=isP_lt h hq
  cases fits with
  |false=>
   have HW:Hid (lZ p.l i false s=.error ((aH p.l i).pos,6)):=zh (by unfold lZ;rw[hq];rfl);rw[hq] at HI;clear h hq;go_enter Tryz.func137,Tryz.ntmps137;go_wp2_with(first|(go_at_call 133;refine HI.out.mono ?_;rintro e w1 ⟨rfl,pS⟩;have qD:=zh (HA.out.later pS))|(go_at_call 144;refine(eY p _ i _ _ qD.out).mono ?_;rintro e w2 (⟨he,rfl,rfl⟩|⟨he,rfl,pR⟩)<;>first|(cases he;done)|skip));exact⟨rfl,Ran.bad HW.out (Off.of_below (aB pS pR))⟩
  |true=>
   have HW:Hid (lZ p.l i true s=.ok ((),i+1)):=zh (by unfold lZ;rw[hq];rfl);rw[hq] at HI;clear h hq;go_enter Tryz.func137,Tryz.ntmps137;go_wp2_with(first|(go_at_call 133;refine HI.out.mono ?_;rintro e w1 ⟨rfl,pS⟩;have qD:=zh (HA.out.later pS);have b1:=qD.out.box1;have f1:=qD.out.froz)|(go_at_call 144;refine(pK p _ _).mono ?_;rintro e w2 ⟨rfl,rfl⟩));go_end0;exact Ran.good HW.out ⟨rfl,(qD.out.step hl).1⟩ ((Off.of_below pS).trans (qD.out.step hl).2)
theorem reserved_size:kK.size=124:=VH
theorem iS(s:ByteArray)(w:World)(hs:s.size<=16000)(hg:dH w):
  Calls Tryz.prog 147 #[.string s] w fun e w'=>e=.returned (.bool (aP s))/\w=w':=by
 exact SZ
end Go.Proofs.YtacgopankhpnbaaGreatDoor
namespace Go.Proofs.YtacgopankhpnbaaGreatDoor
open Go.RowKit
theorem TD{p:Prop}(h:p:=by
 go_wp2_with(first|(go_at_call 185;refine HI.out.mono ?_;rintro e w1 ⟨rfl,pS⟩;have qD:=zh (HA.out.later pS))|(go_at_call 144;refine(pL p _ i _ qD.out).mono ?_;rintro e w2 ⟨rfl,pR⟩))
 exact⟨rfl,Ran.bad HW.out (Off.of_below (aB pS pR))⟩):p:=h
theorem gY(p:Prs)(w:World)(i:Nat)(h:p.At w i):Calls Tryz.prog 185 #[.pointer (some ⟨p.pb,0,none⟩)] w fun e w'=>e=.returned (.bool (cY p.l i))/\Below w.heap.size w w':=by
 have HA:=zh h;have HN:=zh (fun W(hW:p.At W i)=>cO p W i hW);have qX:=(h.toks i _ h.tok).2;have HM:=zh (fun W(hW:p.At W i)=>iS (aH p.l i).text W VG hW.glob);have HI:Hid (cY p.l i=(decide ((aH p.l i).kind=0)&&aP (aH p.l i).text)):=zh rfl;clear h qX;generalize cY p.l i=q at HI ⊢;generalize aH p.l i=t at HN HI HM;have F0:=tokF0;have F1:=tokF1;by_cases hk:t.kind=0
 ·go_enter Tryz.func185,Tryz.ntmps185;go_wp2_with(first|(go_at_call 145;refine(HN.out w HA.out).mono ?_;rintro e w1 ⟨rfl,pS⟩;have A6:=zh (HA.out.later pS))|(go_at_call 145;refine(HN.out w1 A6.out).mono ?_;rintro e w2 ⟨rfl,pR⟩;have BK:=zh (A6.out.later pR))|(go_at_call 147;refine(HM.out w2 BK.out).mono ?_;rintro e w3 ⟨rfl,rfl⟩));go_ret;exact⟨aD (by rw[HI.out,decide_eq_true hk];rfl),aB pS pR⟩
 ·have zN:(t.kind==0)=false:=by rw[beq_eq_false_iff_ne];exact hk
  go_enter Tryz.func185,Tryz.ntmps185;go_wp2_with(go_at_call 145;refine(HN.out w HA.out).mono ?_;rintro e w1 ⟨rfl,pS⟩);go_ret;exact⟨aD (by rw[HI.out,decide_eq_false hk];rfl),pS⟩
theorem Prs.At.stepped{p:Prs}{w:World}{i:Nat}(h:p.At w i)(hl:i+1<p.l.length):
  (w.setCell ⟨p.pb,1,none⟩ (.int .i64 ((i:Int)+1))).cell? ⟨p.pb,0,none⟩=some (.slice (some ⟨p.b,p.o,none⟩) p.l.length p.c)/\(w.setCell ⟨p.pb,1,none⟩ (.int .i64 ((i:Int)+1))).cell? ⟨p.pb,1,none⟩=some (.int .i64 ((i:Int)+1))/\
  (w.setCell ⟨p.pb,1,none⟩ (.int .i64 ((i:Int)+1))).cell? ⟨p.b,p.o+i*4+1,none⟩=some (.string (aH p.l i).text):=by
 have h2:=(h.step hl).1;have ht:p.l[i]? =some (aH p.l i):=h.tok;exact⟨h2.box0,by simpa using h2.box1,(h2.toks i _ ht).1.2.1⟩
theorem aE(w:World):Below w.heap.size w w.drew:=(Below.refl _ _).drew
theorem eU(p:Prs)(w:World)(i:Nat)(h:p.At w i):
  Calls Tryz.prog 132 #[.pointer (some ⟨p.pb,0,none⟩)] w (Ran p.S w (fP p.l i) fun a j e w'=>e=.returned (.string a)/\p.At w' j/\a.size<=8000):=by
 have HA:=zh h;have HI:=zh (gY p w i h);have hb:=h.bound;have qX:=zh (h.toks i _ h.tok).2
 cases hq:cY p.l i with
 |false=>
  have HW:Hid (fP p.l i=.error ((aH p.l i).pos,11)):=zh Y6;rw[hq] at HI;clear h hq;go_enter Tryz.func132,Tryz.ntmps132;exact TD
 |true=>
  have hl:=isNameP_lt h hq;have HW:Hid (fP p.l i=.ok ((aH p.l i).text,i+1)):=zh Y6;rw[hq] at HI;have xC:(0:Int)<=(i:Int)/\(i:Int)<(p.l.length:Int):=VG;clear h hq;go_enter Tryz.func132,Tryz.ntmps132;go_wp2_with(first|(go_at_call 185;refine HI.out.mono ?_;rintro e w1 ⟨rfl,pS⟩;have qD:=zh (HA.out.later pS);have b1:=qD.out.box1;have f1:=qD.out.froz)|(go_at_call 144;refine(pK p _ _).mono ?_;rintro e w2 ⟨rfl,rfl⟩;obtain⟨d0,d1,d2⟩:=qD.out.stepped hl));go_region
  go_wp2_with fail;go_ret;exact Ran.good HW.out ⟨rfl,(qD.out.step hl).1.later (aE _),qX.out⟩ ((Off.of_below pS).trans (qD.out.step hl).2).drew
mutual
def bV(N:Nat->Prop)(w:World):Xp->List Value->Prop
 | .mk op n s m names args,cs=>∃vn va,cs=[.int .i64 op,.int .i64 n,.string s,.string m,vn,va]/\s.size<=8000/\m.size<=8000/\aK 1 cK N w vn names/\
   ∃a c,va=.slice a args.length c/\args.length<=c/\c<=9223372036854775807/\(args≠[]->∃b o,a=some ⟨b,o,none⟩/\N b/\encXs N w b o args)
def encXs(N:Nat->Prop)(w:World)(b:Nat):Nat->List Xp->Prop
 |_,[]=>True
 |o,x::r=>(∃cs,bV N w x cs/\cs.length=6/\∀j u,cs[j]? =some u->w.cell? ⟨b,o+j,none⟩=some u)/\encXs N w b (o+6) r
end
mutual
def iN(N:Nat->Prop)(w:World):Ty->List Value->Prop
 | .mk kind fields,cs=>∃vf,cs=[.int .i64 kind,vf]/\∃a c,vf=.slice a fields.length c/\fields.length<=c/\c<=9223372036854775807/\(fields≠[]->∃b o,a=some ⟨b,o,none⟩/\N b/\encFs N w b o fields)
def encFs(N:Nat->Prop)(w:World)(b:Nat):Nat->List (ByteArray×Ty)->Prop
 |_,[]=>True
 |o,(n,t)::r=>(w.cell? ⟨b,o,none⟩=some (.string n)/\n.size<=8000/\∃cs,iN N w t cs/\∀j u,cs[j]? =some u->w.cell? ⟨b,o+1+j,none⟩=some u)/\encFs N w b (o+3) r
end
def fR(N:Nat->Prop)(w:World)(f:Fld)(cs:List Value):Prop:=∃ct,cs=.string f.1::ct/\f.1.size<=8000/\iN N w f.2 ct
section
variable {N N':Nat->Prop} {w w':World}
theorem encXs_iff(b:Nat):∀(l:List Xp)(o:Nat),encXs N w b o l↔∀i x,l[i]? =some x->∃cs,bV N w x cs/\cs.length=6/\∀j u,cs[j]? =some u->w.cell? ⟨b,o+i*6+j,none⟩=some u
 |[],o=>by simp[encXs]
 |x::r,o=>by
  unfold encXs;rw[encXs_iff b r (o+6)];constructor
  ·rintro⟨h1,h2⟩ i y hy
   cases i with
   |zero=>simp at hy;subst hy;simpa using h1
   |succ i=>
    obtain⟨cs,a1,a2,a3⟩:=h2 i y ZA;exact⟨cs,a1,a2,fun j u hu=>by have:=a3 j u hu;rw[show o+(i+1)*6+j=o+6+i*6+j by omega];exact this⟩
  ·intro h;refine⟨by simpa using h 0 x rfl,fun i y hy=>?_⟩;obtain⟨cs,a1,a2,a3⟩:=h (i+1) y ZA;exact⟨cs,a1,a2,fun j u hu=>by have:=a3 j u hu;rw[show o+6+i*6+j=o+(i+1)*6+j by omega];exact this⟩
theorem aZ(op n:Int)(s m:ByteArray)(names:List ByteArray)(args:List Xp)(cs:List Value):bV N w (.mk op n s m names args) cs↔
  ∃vn va,cs=[.int .i64 op,.int .i64 n,.string s,.string m,vn,va]/\s.size<=8000/\m.size<=8000/\aK 1 cK N w vn names/\aK 6 bV N w va args:=by
 unfold bV aK;simp only[encXs_iff]
mutual
theorem encX_moves(hm:bM N w N' w'):∀(x:Xp)(cs:List Value),bV N w x cs->bV N' w' x cs
 | .mk op n s m names args,cs,h=>by
  unfold bV at h ⊢;obtain⟨vn,va,hc,h1,h2,h3,a,c,h4,h5,h6,h7⟩:=h;refine⟨vn,va,hc,h1,h2,h3.moves aQ hm VI,a,c,h4,h5,h6,fun pQ=>?_⟩;obtain⟨b,o,ha,hb,hx⟩:=h7 pQ
  have pT:b<w.heap.size:=by
   cases args with
   |nil=>exact absurd rfl pQ
   |cons x r=>
    unfold encXs at hx;obtain⟨⟨cs,-,hl,hj⟩,-⟩:=hx;exact cU (hj 0 (cs[0]' VG) (List.getElem?_eq_getElem _))
  exact⟨b,o,ha,(hm b hb pT).1,encXs_moves hm b hb pT args o hx⟩
theorem encXs_moves(hm:bM N w N' w')(b:Nat)(hb:N b)(pT:b<w.heap.size):∀(l:List Xp)(o:Nat),encXs N w b o l->encXs N' w' b o l
 |[],_,_=>by unfold encXs;trivial
 |x::r,o,h=>by
  unfold encXs at h ⊢;obtain⟨⟨cs,h1,h2,h3⟩,h4⟩:=h;exact⟨⟨cs,encX_moves hm x cs h1,h2,fun j u hu=>(hm b hb pT).2 _ _ (h3 j u hu)⟩,encXs_moves hm b hb pT r (o+6) h4⟩
end
theorem aG:eD bV:=fun _ _ _ _ x cs hm h=>encX_moves hm x cs h
theorem encT_len:∀{t:Ty}{cs:List Value},iN N w t cs->cs.length=2
 | .mk _ _,_,h=>by unfold iN at h;obtain⟨vf,rfl,-⟩:=h;rfl
theorem encFs_iff(b:Nat):∀(l:List Fld)(o:Nat),encFs N w b o l↔∀i x,l[i]? =some x->∃cs,fR N w x cs/\cs.length=3/\∀j u,cs[j]? =some u->w.cell? ⟨b,o+i*3+j,none⟩=some u
 |[],o=>by simp[encFs]
 |(n,t)::r,o=>by
  unfold encFs;rw[encFs_iff b r (o+3)];constructor
  ·rintro⟨⟨h0,hn,ct,h1,h3⟩,h2⟩ i y hy
   cases i with
   |zero=>
    simp at hy;subst hy;refine⟨.string n::ct,⟨ct,rfl,hn,h1⟩,by simp[encT_len h1],fun j u hu=>?_⟩
    cases j with
    |zero=>simp at hu;subst hu;simpa using h0
    |succ j=>have:=h3 j u (by simpa using hu);rw[show o+0*3+(j+1)=o+1+j by omega];exact this
   |succ i=>
    obtain⟨cs,a1,a2,a3⟩:=h2 i y ZA;exact⟨cs,a1,a2,fun j u hu=>by have:=a3 j u hu;rw[show o+(i+1)*3+j=o+3+i*3+j by omega];exact this⟩
  ·intro h;refine⟨?_,fun i y hy=>?_⟩
   ·obtain⟨cs,⟨ct,rfl,hn,h1⟩,-,a3⟩:=h 0 (n,t) rfl;refine⟨by simpa using a3 0 (.string n) rfl,hn,ct,h1,fun j u hu=>?_⟩;have:=a3 (j+1) u (by simpa using hu);rw[show o+1+j=o+0*3+(j+1) by omega];exact this
   ·obtain⟨cs,a1,a2,a3⟩:=h (i+1) y ZA;exact⟨cs,a1,a2,fun j u hu=>by have:=a3 j u hu;rw[show o+3+i*3+j=o+(i+1)*3+j by omega];exact this⟩
theorem gE(kind:Int)(fields:List Fld)(cs:List Value):iN N w (.mk kind fields) cs↔∃vf,cs=[.int .i64 kind,vf]/\aK 3 fR N w vf fields:=by
 unfold iN aK;simp only[encFs_iff]
mutual
theorem encT_moves(hm:bM N w N' w'):∀(t:Ty)(cs:List Value),iN N w t cs->iN N' w' t cs
 | .mk kind fields,cs,h=>by
  unfold iN at h ⊢;obtain⟨vf,hc,a,c,h4,h5,h6,h7⟩:=h;refine⟨vf,hc,a,c,h4,h5,h6,fun pQ=>?_⟩;obtain⟨b,o,ha,hb,hx⟩:=h7 pQ
  have pT:b<w.heap.size:=by
   cases fields with
   |nil=>exact absurd rfl pQ
   |cons x r=>
    obtain⟨n,t⟩:=x;unfold encFs at hx;exact cU hx.1.1
  exact⟨b,o,ha,(hm b hb pT).1,encFs_moves hm b hb pT fields o hx⟩
theorem encFs_moves(hm:bM N w N' w')(b:Nat)(hb:N b)(pT:b<w.heap.size):∀(l:List (ByteArray×Ty))(o:Nat),encFs N w b o l->encFs N' w' b o l
 |[],_,_=>by unfold encFs;trivial
 |(n,t)::r,o,h=>by
  unfold encFs at h ⊢;obtain⟨⟨h0,hn,cs,h1,h3⟩,h4⟩:=h;exact⟨⟨(hm b hb pT).2 _ _ h0,hn,cs,encT_moves hm t cs h1,fun j u hu=>(hm b hb pT).2 _ _ (h3 j u hu)⟩,encFs_moves hm b hb pT r (o+3) h4⟩
end
theorem eS:eD iN:=fun _ _ _ _ x cs hm h=>encT_moves hm x cs h
theorem aV:eD fR:=fun _ _ _ _ x cs hm h=>by
 obtain⟨ct,h1,h2,h3⟩:=h;exact⟨ct,h1,h2,encT_moves hm _ _ h3⟩
end
theorem aK.of_block{α:Type}{k:Nat}{enc:(Nat->Prop)->World->α->List Value->Prop}{N:Nat->Prop}{w:World}{b:Nat}{css:List (List Value)}{l:List α}{T:TypeId}{fr:Nat×Nat}{n:Nat}(hb:w.heap[b]? =some (.cells css.flatten.toArray T fr))(hN:N b)
  (hl:css.length=l.length) (hk:∀c,c∈css->c.length=k) (he:∀(i:Nat)(x:α)(c:List Value),l[i]? =some x->css[i]? =some c->enc N w x c) (hn:l.length=n) (qK:n<=9223372036854775807):
  aK k enc N w (.slice (some ⟨b,0,none⟩) n n) l:=by
 subst hn;refine⟨_,_,rfl,Nat.le_refl _,qK,fun _=>⟨b,0,rfl,hN,fun i x hx=>?_⟩⟩;have hi:=(List.getElem?_eq_some_iff.1 hx).1;obtain⟨c,hc⟩:∃c,css[i]? =some c:=⟨_,List.getElem?_eq_getElem (by rw[hl];exact hi)⟩;have hck:=hk c (List.mem_of_getElem? hc);refine⟨c,he i x c hx hc,hck,fun j u hu=>?_⟩;have hj:j<k:=by rw[<-hck];exact(List.getElem?_eq_some_iff.1 hu).1
 have hf:=flatten_at css hk i c j hc hj;rw[hu] at hf;have h2:css.flatten.toArray[i*k+j]? =some u:=by simpa using hf
 rw[Nat.zero_add];simp[World.cell?,hb,h2]
theorem oJ:∀(l:List Fld)(k:Nat)(x:Fld),l[k]? =some x->cP (l.take (k+1))=max (cP (l.take k)) (bU x.2)
 |[],k,x,h=>W9
 |y::l,0,x,h=>by
  simp at h;subst h;obtain⟨n,t⟩:=y;simp[cP]
 |y::l,k+1,x,h=>by
  have:=oJ l k x WI;obtain⟨n,t⟩:=y;simp only[List.take_succ_cons,cP,this,Nat.max_assoc]
theorem levelsFs_mem:∀(l:List Fld)(x:Fld),x∈l->bU x.2<=cP l
 |[],x,h=>YD
 |(n,t)::l,x,h=>by
  unfold cP;rcases List.mem_cons.1 h with rfl|h
  ·exact Nat.le_max_left _ _
  ·exact Nat.le_trans (levelsFs_mem l x h) (Nat.le_max_right _ _)
theorem depthXs_take:∀(l:List Xp)(k:Nat)(x:Xp),l[k]? =some x->eC (l.take (k+1))=max (eC (l.take k)) (cB x)
 |[],k,x,h=>W9
 |y::l,0,x,h=>by simp at h;subst h;simp[eC]
 |y::l,k+1,x,h=>by
  have:=depthXs_take l k x WI;simp only[List.take_succ_cons,eC,this,Nat.max_assoc]
theorem depthXs_mem:∀(l:List Xp)(x:Xp),x∈l->cB x<=eC l
 |[],x,h=>YD
 |y::l,x,h=>by
  unfold eC;rcases List.mem_cons.1 h with rfl|h
  ·exact Nat.le_max_left _ _
  ·exact Nat.le_trans (depthXs_mem l x h) (Nat.le_max_right _ _)
end Go.Proofs.YtacgopankhpnbaaGreatDoor
namespace Go.Proofs.YtacgopankhpnbaaGreatDoor
open Go.RowKit
theorem T8{p:Prop}(h:p:=by
 go_wp2_with fail;go_loop [3,9] (fun m i=>m=.int .i64 0/\i=.int .i64 0) (fun _ _=>0)
 case atStart=>exact⟨rfl,rfl⟩
 case round=>
  obtain⟨rfl,rfl⟩:=hrel;go_wp2_with fail;go_ret
  exact⟨rfl,aA _ _⟩):p:=h
theorem UP{p:Prop}(h:p:=by
 go_roundw;case rel=>exact⟨q+1,VG,VT,by rw[HT.out];go_num,zh (aB HB.out (aB (aA _ _) pS))⟩
 case measure=>simp[intOf];omega):p:=h
theorem levelsFs_le:∀(l:List Fld)(k:Nat),cP (l.take k)<=cP l
 |[],k=>VL
 |x::l,0=>by simp[cP]
 |(n,t)::l,k+1=>by
  have:=levelsFs_le l k;simp only[List.take_succ_cons,cP];omega
theorem depthXs_le:∀(l:List Xp)(k:Nat),eC (l.take k)<=eC l
 |[],k=>VL
 |x::l,0=>by simp[eC]
 |x::l,k+1=>by
  have:=depthXs_le l k;simp only[List.take_succ_cons,eC];omega
theorem levels_any:∀(d:Nat)(t:Ty)(N:Nat->Prop)(k:Int)(vf:Value)(w:World),bU t<=d->bU t<=9000000000000000000->iN N w t [.int .i64 k,vf]->
  Calls Tryz.prog 138 #[.agg #[.int .i64 k,vf]] w fun e w'=>e=.returned (.int .i64 (bU t:Nat))/\Below w.heap.size w w'
 |0,t,_,_,_,_,hd,_,_=>by cases t;simp[bU] at hd
 |d+1,.mk kind fields,N,k,vf,w,hd,qK,he=>by
  rw[gE] at he;obtain⟨vf',hv,hr⟩:=he;cases hv;have vF:bU (.mk kind fields)=cP fields+1:=by rw[bU]
  rw[vF] at hd qK ⊢;clear vF;have R4:=zh (fun t N k vf w h1 h2 h3=>levels_any d t N k vf w h1 h2 h3);rcases hr.cases VI with⟨rfl,a,c,rfl⟩|⟨b,o,c,rfl,h0,h1,h2,hb,hN,hc⟩
  ·clear hr;go_enter Tryz.func138,Tryz.ntmps138;exact T8
  ·have HC:=zh hc;clear hc hr;go_enter Tryz.func138,Tryz.ntmps138;go_wp2_with fail;(go_loopw [3,9] (fun m i wr=>∃q:Nat,q<=fields.length/\i=.int .i64 q/\m=.int .i64 (cP (fields.take q):Nat)/\Hid (Below w.heap.size w wr)) (fun _ i _=>fields.length-(intOf i).toNat));case atStart=>exact⟨0,Nat.zero_le _,rfl,by simp[cP],zh (aA _ _)⟩
   case round=>
    obtain⟨q,hq,rfl,rfl,HB⟩:=hrel;(rename World=>wr);by_cases pT:q<fields.length
    ·obtain⟨x,hx,tU⟩:=getElem?_of_lt pT;obtain⟨cs,⟨ct,rfl,hn,tI⟩,-,hj⟩:=HC.out q x hx;have hm:=levelsFs_mem fields x tU;have HT:Hid (cP (fields.take (q+1))=max (cP (fields.take q)) (bU x.2)):=zh (oJ fields q x hx);obtain⟨nm,ty⟩:=x
     cases ty with
     |mk k2 f2=>
      have uY:=tI;rw[gE] at uY;obtain⟨vf2,rfl,uV⟩:=uY;obtain⟨a2,cc2,rfl,-⟩:=uV;have c0:wr.cell? ⟨b,o+q*3,none⟩=some (.string nm):=aC HB.out (hj 0 _ rfl);have c1:=aC HB.out (hj 1 _ rfl);have c2:=aC HB.out (hj 2 _ rfl);have HE:=zh (fun W(h:Below w.heap.size w W)=>eS _ _ _ _ _ _ (bM.later h) tI);have HL:=zh (fun W h=>R4.out (.mk k2 f2) N k2 _ W (by simp only at hm;omega) (by simp only at hm;omega) (HE.out W h));simp only at HT;have hmx:=HT.out;have PO:cP (fields.take (q+1))<=cP fields:=levelsFs_le fields _;clear hj hx tU tI hm hn;generalize bU (.mk k2 f2)=lv at HL HT hmx;generalize cP (fields.take q)=l0 at HT hmx ⊢;go_wp2_with(go_at_call 138;refine(HL.out _ (aB HB.out (aA _ _))).mono ?_;rintro e w1 ⟨rfl,pS⟩);exact UP
    ·have wY:q=fields.length:=VG;subst wY;rw[List.take_length];generalize PO:cP fields=lv at qK ⊢;have HV:=zh PO;clear PO;go_wp2_with fail;go_ret;exact⟨eW (by have:=HV.out;omega),HB.out⟩
theorem depth_any:∀(d:Nat)(x:Xp)(N:Nat->Prop)(op n:Int)(s m:ByteArray)(vn va:Value)(w:World),cB x<=d->cB x<=9000000000000000000->bV N w x [.int .i64 op,.int .i64 n,.string s,.string m,vn,va]->
  Calls Tryz.prog 189 #[.agg #[.int .i64 op,.int .i64 n,.string s,.string m,vn,va]] w fun e w'=>e=.returned (.int .i64 (cB x:Nat))/\Below w.heap.size w w'
 |0,x,_,_,_,_,_,_,_,_,hd,_,_=>by cases x;simp[cB] at hd
 |d+1,.mk op n s m names args,N,op',n',s',m',vn,va,w,hd,qK,he=>by
  rw[aZ] at he;obtain⟨vn',va',hv,-,-,GN,hr⟩:=he;cases hv;have vF:cB (.mk op n s m names args)=eC args+1:=by rw[cB]
  rw[vF] at hd qK ⊢;clear vF;have R4:=zh (fun x N op n s m vn va w h1 h2 h3=>depth_any d x N op n s m vn va w h1 h2 h3);obtain⟨an,cn,rfl,-⟩:=GN;rcases hr.cases VI with⟨rfl,a,c,rfl⟩|⟨b,o,c,rfl,h0,h1,h2,hb,hN,hc⟩
  ·clear hr;go_enter Tryz.func189,Tryz.ntmps189;exact T8
  ·have HC:=zh hc;clear hc hr;go_enter Tryz.func189,Tryz.ntmps189;go_wp2_with fail;(go_loopw [3,9] (fun m i wr=>∃q:Nat,q<=args.length/\i=.int .i64 q/\m=.int .i64 (eC (args.take q):Nat)/\Hid (Below w.heap.size w wr)) (fun _ i _=>args.length-(intOf i).toNat));case atStart=>exact⟨0,Nat.zero_le _,rfl,by simp[eC],zh (aA _ _)⟩
   case round=>
    obtain⟨q,hq,rfl,rfl,HB⟩:=hrel;(rename World=>wr);by_cases pT:q<args.length
    ·obtain⟨x,hx,tU⟩:=getElem?_of_lt pT;obtain⟨cs,tI,-,hj⟩:=HC.out q x hx;have hm:=depthXs_mem args x tU;have HT:Hid (eC (args.take (q+1))=max (eC (args.take q)) (cB x)):=zh (depthXs_take args q x hx)
     cases x with
     |mk uB n2 s2 m2 names2 args2=>
      have uY:=tI;rw[aZ] at uY;obtain⟨vn2,va2,rfl,-,-,uW,uV⟩:=uY;obtain⟨a1,OG,rfl,-⟩:=uW;obtain⟨a2,cc2,rfl,-⟩:=uV;have c0:wr.cell? ⟨b,o+q*6,none⟩=some (.int .i64 uB):=aC HB.out (hj 0 _ rfl);have c1:=aC HB.out (hj 1 _ rfl);have c2:=aC HB.out (hj 2 _ rfl);have c3:=aC HB.out (hj 3 _ rfl);have c4:=aC HB.out (hj 4 _ rfl);have c5:=aC HB.out (hj 5 _ rfl);have HE:=zh (fun W(h:Below w.heap.size w W)=>aG _ _ _ _ _ _ (bM.later h) tI);have HL:=zh (fun W h=>R4.out (.mk uB n2 s2 m2 names2 args2) N uB n2 s2 m2 _ _ W VG VG (HE.out W h));have hmx:=HT.out;have PO:eC (args.take (q+1))<=eC args:=depthXs_le args _;clear hj hx tU tI hm;generalize cB (.mk uB n2 s2 m2 names2 args2)=lv at HL HT hmx;generalize eC (args.take q)=l0 at HT hmx ⊢;go_wp2_with(go_at_call 189;refine(HL.out _ (aB HB.out (aA _ _))).mono ?_;rintro e w1 ⟨rfl,pS⟩);exact UP
    ·have wY:q=args.length:=VG;subst wY;rw[List.take_length];generalize PO:eC args=lv at qK ⊢;have HV:=zh PO;clear PO;go_wp2_with fail;go_ret;exact⟨eW (by have:=HV.out;omega),HB.out⟩
theorem oT(p:Prs)(w:World)(i a b:Nat)(h:p.At w i):
  Calls Tryz.prog 134 #[.pointer (some ⟨p.pb,0,none⟩),.int .i64 (a:Int),.int .i64 (b:Int)] w (Ran p.S w (gO p.l i a b) fun _ j e w'=>e=.returned (.tuple #[])/\p.At w' j):=by
 have HA:=zh h;have HR:Hid (gO p.l i a b=if a<b then .ok ((),i) else .error ((aH p.l i).pos,6)):=zh rfl;clear h;by_cases pT:(a:Int)<(b:Int)
 ·have xW:decide ((a:Int)<(b:Int))=true:=decide_eq_true pT;go_enter Tryz.func134,Tryz.ntmps134;go_wp2_with(go_at_call 144;refine(eY p _ i _ _ HA.out).mono ?_;rintro e w2 (⟨he,rfl,rfl⟩|⟨he,rfl,pR⟩)<;>first|(cases he;done)|skip);go_end0;exact Ran.good (by rw[HR.out,if_pos VG]) ⟨rfl,HA.out⟩ (Off.refl _ _)
 ·have xW:decide ((a:Int)<(b:Int))=false:=decide_eq_false pT;go_enter Tryz.func134,Tryz.ntmps134;go_wp2_with(go_at_call 144;refine(eY p _ i _ _ HA.out).mono ?_;rintro e w2 (⟨he,rfl,rfl⟩|⟨he,rfl,pR⟩)<;>first|(cases he;done)|skip);exact⟨rfl,Ran.bad (by rw[HR.out,if_neg VG]) (Off.of_below pR)⟩
theorem run_gtr_str(t:TypeId)(a b:ByteArray)(w:World):(binOp .gtr t (.string a) (.string b)).run Tryz.prog w=.ok (.bool !(Op.bytesLess a.toList b.toList||a.toList==b.toList)) w:=by
 simp[binOp,Op.stringOp]
theorem mT(p:Prs)(w:World)(i:Nat)(than:ByteArray)(any:Bool)(h:p.At w i):
  Calls Tryz.prog 186 #[.pointer (some ⟨p.pb,0,none⟩),.string than,.bool any] w (Ran p.S w (fQ p.l i than any) fun a j e w'=>e=.returned (.string a)/\p.At w' j/\a.size<=8000):=by
 have HA:=zh h;have HI:=zh (gY p w i h);have HN:=zh (fun W(hW:p.At W i)=>cO p W i hW);have HM:=zh (fun W(hW:p.At W i)=>eU p W i hW);have F1:=tokF1;have hG:=run_gtr_str
 cases hq:cY p.l i with
 |false=>
  have HW:Hid (fQ p.l i than any=.error ((aH p.l i).pos,11)):=zh (by unfold fQ;rw[hq];rfl);rw[hq] at HI;clear h hq;go_enter Tryz.func186,Tryz.ntmps186;exact TD
 |true=>
  have EK:Hid (fP p.l i=.ok ((aH p.l i).text,i+1)):=zh Y6;have HW:Hid (fQ p.l i than any=if any&&decide ((aH p.l i).text=than) then .error ((aH p.l i).pos,5) else if any&& !gtB (aH p.l i).text than then .error ((aH p.l i).pos,12) else .ok ((aH p.l i).text,i+1)):=zh (by unfold fQ;rw[hq];rfl);rw[hq] at HI;clear h hq;generalize ht:aH p.l i=t at HN EK HW;have CV:=zh ht;clear ht
  cases any with
  |false=>
   go_enter Tryz.func186,Tryz.ntmps186;go_wp2_with(first|(go_at_call 185;refine HI.out.mono ?_;rintro e w1 ⟨rfl,pS⟩;have qD:=zh (HA.out.later pS))|(go_at_call 144;refine(pK p _ _).mono ?_;rintro e w2 ⟨rfl,rfl⟩)|(go_at_call 132;refine(HM.out _ qD.out).mono ?_;rintro e w3 (⟨x,hx,rfl,ho⟩|⟨a,j,hx,⟨rfl,rY,qX⟩,ho⟩)))
   ·rw[EK.out] at hx;cases hx
   ·rw[EK.out] at hx;cases hx;go_ret;exact Ran.good (by rw[HW.out];rfl) ⟨rfl,rY,qX⟩ ((Off.of_below pS).trans ho)
  |true=>
   go_enter Tryz.func186,Tryz.ntmps186;go_wp2_with(first|(go_at_call 185;refine HI.out.mono ?_;rintro e w1 ⟨rfl,pS⟩;have qD:=zh (HA.out.later pS))|(go_at_call 145;refine(HN.out w2 qL.out).mono ?_;rintro e w3 ⟨rfl,rD⟩;have rY:=zh (qL.out.later rD))|(go_at_call 145;refine(HN.out w1 qD.out).mono ?_;rintro e w2 ⟨rfl,pR⟩;have qL:=zh (qD.out.later pR))|(go_at_call 132;refine(HM.out w3 rY.out).mono ?_;rintro e w4 (⟨x,hx,rfl,ho⟩|⟨a,j,hx,⟨rfl,rR,qX⟩,ho⟩))|(go_at_call 144;refine(eY p w3 i _ _ rY.out).mono ?_;rintro e w5 (⟨N4,rfl,rfl⟩|⟨N4,rfl,hb5⟩))|(go_at_call 144;refine(eY p w2 i _ _ qL.out).mono ?_;rintro e w5 (⟨xY,rfl,rfl⟩|⟨xY,rfl,hb5⟩))|(go_at_call 144;refine(eY p w1 i _ _ qD.out).mono ?_;rintro e w5 (⟨CD,rfl,rfl⟩|⟨CD,rfl,hb5⟩)<;>first|(cases CD;done)|skip))
   ·rw[EK.out] at hx;cases hx
   ·rw[EK.out] at hx;cases hx;(have e2:(t.text.toList==than.toList)=false:=by simpa using xY);(have e3:gtB t.text than=true:=by unfold gtB;rw[e2];simpa using N4);go_wp2_with fail;go_ret;exact Ran.good (by rw[HW.out,e3,<-cE,e2];rfl) ⟨rfl,rR,qX⟩ ((Off.of_below (aB pS (aB pR rD))).trans ho)
   ·(have e2:(t.text.toList==than.toList)=false:=by simpa using xY);(have e3:gtB t.text than=false:=by unfold gtB;rw[e2];simpa using N4);exact⟨rfl,Ran.bad (by rw[CV.out,HW.out,e3,<-cE,e2];rfl) (Off.of_below (aB pS (aB pR (aB rD hb5))))⟩
   ·(have e2:(t.text.toList==than.toList)=true:=by simpa using xY);exact⟨rfl,Ran.bad (by rw[CV.out,HW.out,<-cE,e2];rfl) (Off.of_below (aB pS (aB pR hb5)))⟩
def dY(aI:ByteArray->Bool)(x:ByteArray):Option Bool:=if aI x then some true else none
theorem setOf_getD(aI:ByteArray->Bool)(x:ByteArray):(dY aI x).getD false=aI x:=by unfold dY;cases aI x<;>rfl
theorem setOf_put(aI:ByteArray->Bool)(a:ByteArray):(fun z=>if z=a then some true else dY aI z)=dY (fun z=>decide (z=a)||aI z):=by
 funext z;unfold dY;by_cases h:z=a<;>simp[h]
abbrev Prs.S2(p:Prs)(km:Nat):Nat->Prop:=fun k=>k=p.pb\/k=km
theorem Off.mono{S S':Nat->Prop}{w w':World}(h:Off S w w')(hS:∀k,S k->S' k):Off S' w w':=⟨h.os,h.tape,h.output,h.size,fun k hk hn=>h.block k hk (fun hs=>hn (hS k hs))⟩
theorem off_map{w w':World}{km:Nat}{S:Nat->Prop}(hS:S km)(hg:w.grownBy w' (some km)):Off S w w':=Off.of_only (iE hg) hS
section
variable {p:Prs} {w w':World} {i km n:Nat} {aI:ByteArray->Bool}
theorem Prs.At.nemap(h:p.At w i)(hm:cQ w km):km≠p.pb/\km≠p.b:=by
 have h0:=h.lt;exact⟨fun e=>hm.ne h.box0 e.symm,fun e=>hm.ne (h.toks i _ h.tok).1.1 e.symm⟩
theorem Prs.At.grown(h:p.At w i)(hm:cQ w km)(hk:11<=km)(hg:w.grownBy w' (some km)):p.At w' i:=by
 have hn:=h.nemap hm;exact h.off (S:=fun k=>k=km) (off_map rfl hg) (fun e=>hn.1 e.symm) (fun e=>hn.2 e.symm) (fun k zN e=>VG)
theorem map_off{P:Program}{kt et:TypeId}{κ ν:Type}{K:KeyC P kt κ}{V:ValC P et ν}{m:κ->Option ν}(h:p.At w i)(hm:aW K V w km n m)(ho:Off p.S w w'):aW K V w' km n m:=
 hm.of_block (ho.block km hm.lt (h.nemap (cQ.of hm)).1)
end
theorem mV(p:Prs)(w:World)(i km n:Nat)(aI:ByteArray->Bool)(h:p.At w i)(hm:aW eI dD w km n (dY aI))(hk:11<=km)(hn:n<1000000):
  Calls Tryz.prog 135 #[.pointer (some ⟨p.pb,0,none⟩),.map (some km)] w (Ran (p.S2 km) w (gZ p.l i aI) fun a j e w'=>e=.returned (.string a)/\p.At w' j/\aW eI dD w' km (n+1) (dY fun z=>decide (z=a)||aI z)/\a.size<=8000):=by
 have HA:=zh h;have R0:=zh hm;have HI:=zh (gY p w i h);have HN:=zh (fun W(hW:p.At W i)=>cO p W i hW);have HM:=zh (fun W(hW:p.At W i)=>eU p W i hW);have qX:=(h.toks i _ h.tok).2;have F1:=tokF1;have hS:∀k,p.S k->p.S2 km k:=fun k h=>.inl h
 cases hq:cY p.l i with
 |false=>
  have HW:Hid (gZ p.l i aI=.error ((aH p.l i).pos,11)):=zh (by unfold gZ;rw[hq];rfl);rw[hq] at HI;clear h hq hm qX;go_enter Tryz.func135,Tryz.ntmps135;exact TD
 |true=>
  have EK:Hid (fP p.l i=.ok ((aH p.l i).text,i+1)):=zh Y6;have HW:Hid (gZ p.l i aI=if aI (aH p.l i).text then .error ((aH p.l i).pos,5) else .ok ((aH p.l i).text,i+1)):=zh (by unfold gZ;rw[hq];unfold jW;rfl);rw[hq] at HI;clear h hq hm;generalize ht:aH p.l i=t at HN EK HW qX;have CV:=zh ht;clear ht;have s1:t.text.size<=140737488355328:=VG;have HL:=zh (setOf_getD aI t.text);have HP:=zh (setOf_put aI t.text);generalize zM:aI t.text=q at HL HW;clear zM;go_enter Tryz.func135,Tryz.ntmps135;go_wp2_with(first|(go_at_call 185;refine HI.out.mono ?_;rintro e w1 ⟨rfl,pS⟩;have qD:=zh (HA.out.later pS);have xB:=zh (R0.out.later pS))|(go_at_call 145;refine(HN.out w2 qL.out).mono ?_;rintro e w3 ⟨rfl,rD⟩;have rY:=zh (qL.out.later rD);have hm3:=zh (PN.out.later rD))|(go_at_call 145;refine(HN.out w1 qD.out).mono ?_;rintro e w2 ⟨rfl,pR⟩;have qL:=zh (qD.out.later pR);have PN:=zh (xB.out.later pR))|(go_at_call 132;refine(HM.out w4 rR.out).mono ?_;rintro e w5 (⟨x,hx,rfl,ho⟩|⟨a,j,hx,⟨rfl,sN,hsz5⟩,ho⟩))|(go_at_call 144;refine(eY p w2 i _ _ qL.out).mono ?_;rintro e w5 (⟨xY,rfl,rfl⟩|⟨xY,rfl,hb5⟩))|(go_at_call 144;refine(eY p w1 i _ _ qD.out).mono ?_;rintro e w5 (⟨CD,rfl,rfl⟩|⟨CD,rfl,hb5⟩)<;>first|(cases CD;done)|skip)|(at_lookup;refine bI PN.out s1 HL.out rfl rfl rfl rfl ?_)|(at_mapUpdate;refine jV hm3.out VG s1 rfl rfl rfl rfl rfl ?_;intro w4 hm4 P9;have rR:=zh (rY.out.grown (cQ.of hm3.out) hk P9);have hg4':=zh P9;have hm4':=zh (hm4.ext (fun z=>congrFun HP.out z));clear hm4 P9))
  ·rw[EK.out] at hx;cases hx
  ·rw[EK.out] at hx;cases hx;go_ret;(have hq:q=false:=by cases q<;>simp_all);exact Ran.good (by rw[HW.out,hq];rfl) ⟨rfl,sN,map_off rR.out hm4'.out ho,hsz5⟩ ((Off.of_below (aB pS (aB pR rD))).trans ((off_map (.inr rfl) hg4'.out).trans (ho.mono hS)))
  ·(have hq:q=true:=by cases q<;>simp_all);exact⟨rfl,Ran.bad (by rw[CV.out,HW.out,hq];rfl) (Off.of_below (aB pS (aB pR hb5)))⟩
end Go.Proofs.YtacgopankhpnbaaGreatDoor
