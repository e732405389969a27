/- Texts of this seat, joined. -/
import Derived.Test.YtacgopankhpnbaaGreatDoorSY
set_option maxHeartbeats 2000000
set_option maxRecDepth 100000
set_option linter.unusedVariables false
set_option linter.unusedSimpArgs false
namespace Go.Proofs.YtacgopankhpnbaaGreatDoor
open Go.RowKit
theorem S7{p:Prop}(h:p:=by
 go_enter Tryz.func187,Tryz.ntmps187;go_wp2_with(first|(go_at_call 138;refine(HL.out _ (aA _ _)).mono ?_;rintro e w1 ⟨rfl,pS⟩;have D2:=zh (aB (aA _ _) pS);have qD:=zh (HA.out.later D2.out))|(go_at_call 133;refine(HI.out w1 qD.out).mono ?_;rintro e w2 ⟨rfl,pR⟩;have qL:=zh (qD.out.later pR))|(go_at_call 137;refine(HE.out w2 _ _ qL.out).mono ?_;rintro e w3 (⟨x,hx,rfl,ho⟩|⟨⟨⟩,j,hx,⟨rfl,rY⟩,ho⟩)))
 ·exact⟨rfl,Ran.bad (by rw[HM.out,<-HD.out,hx];rfl) ((Off.of_below (aB D2.out pR)).trans ho)⟩
 ·go_ret
  exact Ran.good (by rw[HM.out,<-HD.out,hx];rfl) ⟨rfl,rY⟩ ((Off.of_below (aB D2.out pR)).trans ho)):p:=h
abbrev effectB:ByteArray:=bs [102,105,108,101,115,32,110,101,116,32,99,108,111,99,107,32,115,101,99,114,101,116,115]
abbrev bN:List ByteArray:=[kFiles,kNet,kClock,kSecrets]
theorem effFields:(Lib.fields effectB.data.toList).map (fun l=>Value.string ⟨l.toArray⟩)=bN.map Value.string:=WF
theorem effLen:(Lib.fields effectB.data.toList).length=4:=WF
theorem effAscii:∀(j:Nat)b,effectB.data.toList[j]? =some b->b.toNat<128:=by
 have h:effectB.data.toList.all (fun b=>decide (b.toNat<128))=true:=WF;intro j b hb;have:=List.all_eq_true.1 h b (List.mem_of_getElem? hb);simpa using this
theorem bitOf_idx(s:ByteArray):(Lib.idxOfS bN s=0/\cT s=1)\/(Lib.idxOfS bN s=1/\cT s=2)\/(Lib.idxOfS bN s=2/\cT s=4)\/(Lib.idxOfS bN s=3/\cT s=8)\/(Lib.idxOfS bN s= -1/\cT s=0):=by
 unfold Lib.idxOfS cT;by_cases h1:s=kFiles
 ·left;subst h1;exact⟨rfl,rfl⟩
 ·by_cases h2:s=kNet
  ·right;left;subst h2;exact⟨rfl,rfl⟩
  ·by_cases h3:s=kClock
   ·right;right;left;subst h3;exact⟨rfl,rfl⟩
   ·by_cases h4:s=kSecrets
    ·right;right;right;left;subst h4;exact⟨rfl,rfl⟩
    ·right;right;right;right;refine⟨?_,by rw[if_neg h1,if_neg h2,if_neg h3,if_neg h4]⟩;simp only[Lib.idxFromS,if_neg (Ne.symm h1),if_neg (Ne.symm h2),if_neg (Ne.symm h3),if_neg (Ne.symm h4)]
theorem effCells(w:World):∀j,j<bN.length->(w.alloc (.cells (bN.map Value.string).toArray 9)).cell? ⟨w.heap.size,0+j,none⟩=some (.string (bN.getD j ByteArray.empty)):=by
 intro j hj;rw[cell_of_row _ w.heap.size (0+j) _ _ _ (heap_alloc_new w _),Nat.zero_add]
 match j,hj with
 |0,_=>rfl
 |1,_=>rfl
 |2,_=>rfl
 |3,_=>rfl
theorem fieldsEff(w:World)(hs:Lib.TabIs Tryz.prog w "strings.asciiSpace" .u8 Lib.asciiSpaceTab):Calls Tryz.prog 190 #[.string effectB] w fun e w'=>e=.returned (.slice (some ⟨w.heap.size,0,none⟩) 4 4)/\w'=w.alloc (.cells (bN.map Value.string).toArray 9):=by
 have h:=Tryz.strings_Fields_laid effectB w VI effAscii hs;rw[effLen,effFields] at h;exact h
theorem kZ(s:ByteArray)(w:World)(hs:Lib.TabIs Tryz.prog w "strings.asciiSpace" .u8 Lib.asciiSpaceTab):
  Calls Tryz.prog 191 #[.string s] w fun e w'=>e=.returned (.int .i64 (cT s))/\Below w.heap.size w w':=by
 have HF:=zh (fieldsEff w hs);have HI:=zh (Tryz.slices_Index_string w.heap.size 0 4 4 bN s (w.alloc (.cells (bN.map Value.string).toArray 9)) (Nat.le_refl _) VI (effCells w));have HB:=zh (aA w (.cells (bN.map Value.string).toArray 9));rw[show bN.take 4=bN from rfl] at HI;have hb:=bitOf_idx s;generalize w.alloc (.cells (bN.map Value.string).toArray 9)=w1 at HF HI HB;generalize Lib.idxOfS bN s=q at HI hb;generalize cT s=r at hb ⊢;clear hs;rcases hb with⟨rfl,rfl⟩|⟨rfl,rfl⟩|⟨rfl,rfl⟩|⟨rfl,rfl⟩|⟨rfl,rfl⟩
 all_goals go_enter Tryz.func191,Tryz.ntmps191
 all_goals go_wp2_with(first|(go_at_call 190;refine HF.out.mono ?_;rintro e w2 ⟨rfl,rfl⟩)|(go_at_call 222;refine HI.out.mono ?_;rintro e w2 ⟨rfl,rfl⟩))
 all_goals go_ret
 all_goals exact⟨rfl,HB.out⟩
theorem more_any(p:Prs)(w:World)(i:Nat)(N:Nat->Prop)(t:Ty)(k:Int)(vf:Value)(s:ByteArray)(h:p.At w i)(ht:iN N w t [.int .i64 k,vf])(qK:bU t<=9000000000000000000):
  Calls Tryz.prog 187 #[.pointer (some ⟨p.pb,0,none⟩),.agg #[.int .i64 k,vf],.string s] w (Ran p.S w (moreP p.l i t s) fun b j e w'=>e=.returned (.bool b)/\p.At w' j):=by
 have HA:=zh h;have HL:=zh (fun W(hW:Below w.heap.size w W)=>levels_any _ t N k vf W (Nat.le_refl _) qK (eS _ _ _ _ _ _ (bM.later hW) ht));have HI:=zh (fun W(hW:p.At W i)=>fI p W i bJ hW);have HE:=zh (fun W f s(hW:p.At W i)=>end_any p W i f s hW);have HM:Hid (moreP p.l i t s=if isP p.l i bJ then(lZ p.l i (decide (bU t<=4)) bJ).bnd fun _ j=>.ok (false,j) else(lZ p.l i (decide (bU t<=4)) s).bnd fun _ j=>.ok (true,j)):=zh rfl
 have hvf:∃a n c,vf=.slice a n c:=by
  cases t;rw[gE] at ht;obtain⟨v,e,a,c,rfl,-⟩:=ht;cases e;exact⟨_,_,_,rfl⟩
 obtain⟨a,n,c,rfl⟩:=hvf;clear h ht qK;have hdec:decide ((bU t:Int)<=4)=decide (bU t<=4):=WC;have HD:=zh hdec;clear hdec;generalize bU t=lv at HL HM HD;generalize isP p.l i bJ=q at HI HM
 cases q with
 |true=>
  exact S7
 |false=>
  exact S7
def posOf(w:World)(pb:Nat):Nat:=match w.cell? ⟨pb,1,none⟩ with
 |some (.int _ n)=>n.toNat
 |_=>0
theorem Prs.At.pos{p:Prs}{w:World}{i:Nat}(h:p.At w i):posOf w p.pb=i:=by unfold posOf;rw[h.box1];simp
theorem bx{w:World}{b:Nat}{cs:Array Value}{t:TypeId}(h:w.heap[b]? =some (.cells cs t))(i:Nat){u:Value}(hu:cs[i]? =some u):w.cell? ⟨b,i,none⟩=some u/\w.frozen? ⟨b,i,none⟩=false:=by
 constructor<;>simp[World.cell?,World.frozen?,h,hu]
theorem PR.bnd_bad{α β:Type}{m:PR α}{k:α->Nat->PR β}{x:Int×Int}(h:m=.error x):m.bnd k=.error x:=by rw[h];rfl
theorem PR.bnd_ok{α β:Type}{m:PR α}{k:α->Nat->PR β}{a:α}{j:Nat}(h:m=.ok (a,j)):m.bnd k=k a j:=by rw[h];rfl
theorem PR.of_bnd{α β:Type}{m:PR α}{k:α->Nat->PR β}{b:β}{j:Nat}(h:m.bnd k=.ok (b,j)):∃a i,m=.ok (a,i)/\k a i=.ok (b,j):=by
 unfold PR.bnd at h;split at h
 ·cases h
 ·exact⟨_,_,rfl,h⟩
section
variable {l:List Tok}
theorem cH{i j:Nat}{s:ByteArray}(h:dB l i s=.ok ((),j)):j=i+1/\isP l i s=true:=by
 unfold dB at h;split at h
 ·cases h;exact⟨rfl,‹_›⟩
 ·cases h
theorem endP_ok{i j:Nat}{f:Bool}{s:ByteArray}(h:lZ l i f s=.ok ((),j)):j=i+1:=by
 unfold lZ at h;split at h
 ·split at h
  ·cases h;rfl
  ·cases h
 ·cases h
theorem fE{i j:Nat}{a:ByteArray}(h:fP l i=.ok (a,j)):j=i+1:=by
 unfold fP at h;split at h
 ·cases h;rfl
 ·cases h
theorem laterP_ok{i j:Nat}{a than:ByteArray}{any:Bool}(h:fQ l i than any=.ok (a,j)):j=i+1:=by
 unfold fQ at h;split at h
 ·split at h
  ·cases h
  ·split at h
   ·cases h
   ·cases h;rfl
 ·cases h
theorem pG{i j:Nat}{a:ByteArray}{aI:ByteArray->Bool}(h:gZ l i aI=.ok (a,j)):j=i+1:=by
 unfold gZ at h;split at h
 ·split at h
  ·cases h
  ·cases h;rfl
 ·cases h
theorem pA{i j:Nat}{t:Ty}{s:ByteArray}{b:Bool}(h:moreP l i t s=.ok (b,j)):j=i+1:=by
 unfold moreP at h;split at h
 ·obtain⟨a,k,h1,h2⟩:=PR.of_bnd h;have:=endP_ok h1;cases h2;exact this
 ·obtain⟨a,k,h1,h2⟩:=PR.of_bnd h;have:=endP_ok h1;cases h2;exact this
theorem oN{rec:Nat->PR Ty}{D:Nat}(hr:∀i t j,rec i=.ok (t,j)->bU t<=D):∀(F:Nat)(fs:List Fld)(i:Nat)(t:Ty)(j:Nat),cP fs<=D->eM l rec F fs i=.ok (t,j)->bU t<=D+1
 |0,fs,i,t,j,hf,h=>by
  unfold eM at h;cases h;rw[bU];omega
 |F+1,fs,i,t,j,hf,h=>by
  unfold eM at h;obtain⟨_,_,-,h⟩:=PR.of_bnd h;obtain⟨s,j1,-,h⟩:=PR.of_bnd h;obtain⟨u,j2,hu,h⟩:=PR.of_bnd h;obtain⟨q,j3,-,h⟩:=PR.of_bnd h;have hu2:=hr _ _ _ hu
  have hn:cP (fs++[(s,u)])<=D:=by
   have h1:=oJ (fs++[(s,u)]) fs.length (s,u) VL;rw[List.take_of_length_le VL,List.take_left] at h1;rw[h1];exact Nat.max_le.2 ⟨hf,hu2⟩
  split at h
  ·cases h;rw[bU];omega
  ·exact oN hr F _ _ t j hn h
theorem lP:∀(f i:Nat)(t:Ty)(j:Nat),fL l f i=.ok (t,j)->bU t<=f
 |0,i,t,j,h=>by unfold fL at h;cases h
 |f+1,i,t,j,h=>by
  unfold fL at h;split at h
  ·cases h;simp[bU,cP]
  ·split at h
   ·cases h;simp[bU,cP]
   ·obtain⟨_,j1,-,h⟩:=PR.of_bnd h;split at h
    ·cases h;simp[bU,cP]
    ·exact oN (fun i t j h=>lP f i t j h) _ _ _ t j (by simp[cP]) h
def iL(fs:List Fld):ByteArray:=(fs.getLast?.map (·.1)).getD noB
theorem fM{rec:Nat->PR Ty}{F:Nat}{fs:List Fld}{i:Nat}(hq:cY l i=true):eM l rec (F+1) fs i=
  (gO l i fs.length 8).bnd fun _ _=>(fQ l i (iL fs) (decide (0<fs.length))).bnd fun s j=>(rec j).bnd fun t j2=>(moreP l j2 t gR).bnd fun q j3=>
   if q then .ok (.mk 2 (fs++[(s,t)]),j3) else eM l rec F (fs++[(s,t)]) j3:=by
 rw[eM,if_pos hq];rfl
theorem oM{rec:Nat->PR Ty}{F:Nat}{fs:List Fld}{i:Nat}(hq:cY l i=false):eM l rec (F+1) fs i=.error ((aH l i).pos,11):=by
 rw[eM,if_neg X0];unfold fQ;rw[hq];rfl
end
end Go.Proofs.YtacgopankhpnbaaGreatDoor
namespace Go.Proofs.YtacgopankhpnbaaGreatDoor
open Go.RowKit
theorem TM{p:Prop}(h:p:=by
 rename_i uM;subst uM;have hR:=pZ.out.trans ((PR.bnd_ok BG.out).trans ((PR.bnd_ok rW.out).trans ((PR.bnd_ok sW).trans (if_neg VL))));have PY:=pA sW;have NO:=rI.lt;obtain⟨F',sU⟩:∃F',F=F'+1:=⟨F-1,VG⟩;have HR':=zh hR;have KB:=zh rI;clear hR rI;go_roundw
 case rel=>
  subst sU;exact⟨j3,F',_,_,_,zh ⟨wW.out,KB.out,HR'.out,VG,VG⟩⟩
 case measure=>
  rw[KB.out.pos,HT.out.2.1.pos];omega):p:=h
theorem TR{p:Prop}(h:p:=by
 refine⟨_,rfl,hs,?_⟩;refine eS.wide (eS.off tI o9 (fun b hb hn=>by have hn:(w6.alloc (.cells #[.string a,.int .i64 0,.slice none 0 0] 184)).heap.size<=b:=hn;omega)) fun b hn _=>?_;have hn:(w6.alloc (.cells #[.string a,.int .i64 0,.slice none 0 0] 184)).heap.size<=b:=hn
 exact⟨VG,fun e=>by have:=pT b e;omega⟩):p:=h
theorem US{p:Prop}(h:p:=by
 refine oL (N:=bD B) hR VG wW.out.off rI HS.out ?_ (fun b hb=>YI);rw[gE]
 exact⟨_,rfl,wW.out.acc.row aV⟩):p:=h
theorem U4{p:Prop}(h:p:=by
 exact⟨rfl,Ran.bad' (pZ.out.trans ((PR.bnd_ok BG.out).trans ((PR.bnd_ok rW.out).trans (PR.bnd_bad sW)))) wW.out.off⟩):p:=h
theorem U8{p:Prop}(h:p:=by
 exact⟨rfl,Ran.bad' (by have e:=(iT uL).symm.trans hx;cases e;exact HT.out.2.2.1.trans (oM uL)) EA.out.off⟩):p:=h
theorem Off.fresh{S:Nat->Prop}{w w':World}{B:Nat}(h:Off (fun k=>S k\/B<=k) w w')(hB:w.heap.size<=B):Off S w w':=
 ⟨h.os,h.tape,h.output,h.size,fun k hk hn=>h.block k hk (fun hs=>hs.elim hn (fun hb=>VG))⟩
theorem Off.or{S:Nat->Prop}{w w':World}(B:Nat)(h:Off S w w'):Off (fun k=>S k\/B<=k) w w':=h.mono fun _ h=>.inl h
theorem encT_slice{N:Nat->Prop}{w:World}{t:Ty}{k:Int}{vf:Value}(h:iN N w t [.int .i64 k,vf]):∃a n c,vf=.slice a n c:=by
 cases t;rw[gE] at h;obtain⟨v,e,a,c,rfl,-⟩:=h;cases e;exact⟨_,_,_,rfl⟩
theorem fldInfo:(Tryz.prog.info? 184).map (fun i=>(i.zero,i.size,i.bytes))=some (some (.agg #[.string ByteArray.empty,.int .i64 0,.slice none 0 0]),3,48):=VH
theorem bxT2{w:World}{b:Nat}{x y:Value}{t:TypeId}(h:w.heap[b]? =some (.cells #[x,y] t)):w.cell? ⟨b,0,none⟩=some x/\w.cell? ⟨b,1,none⟩=some y/\w.frozen? ⟨b,0,none⟩=false/\w.frozen? ⟨b,1,none⟩=false:=
 ⟨(bx h 0 rfl).1,(bx h 1 rfl).1,(bx h 0 (u:=x) rfl).2,(bx h 1 (u:=y) rfl).2⟩
theorem bxT3{w:World}{b:Nat}{x y z:Value}{t:TypeId}(h:w.heap[b]? =some (.cells #[x,y,z] t)):w.cell? ⟨b,0,none⟩=some x/\w.cell? ⟨b,1,none⟩=some y/\w.cell? ⟨b,2,none⟩=some z/\w.frozen? ⟨b,0,none⟩=false/\w.frozen? ⟨b,1,none⟩=false/\w.frozen? ⟨b,2,none⟩=false:=
 ⟨(bx h 0 rfl).1,(bx h 1 rfl).1,(bx h 2 rfl).1,(bx h 0 (u:=x) rfl).2,(bx h 1 (u:=y) rfl).2,(bx h 2 (u:=z) rfl).2⟩
def TypedOk(p:Prs)(f:Nat):Prop:=∀(i:Nat)(w:World),p.At w i->p.l.length<f+i->Calls Tryz.prog 136 #[.pointer (some ⟨p.pb,0,none⟩)] w
 (Ran p.S w (fL p.l f i) fun t j e w'=>∃k sa sn sc,e=.returned (.agg #[.int .i64 k,.slice sa sn sc])/\iN (bD w.heap.size) w' t [.int .i64 k,.slice sa sn sc]/\p.At w' j/\i<j)
structure TyL (p:Prs) (W:World) (b3 B:Nat) (fs:List Fld) (css:List (List Value)) (v:Value) (wr:World):Prop where
 off:Off p.S W wr
 res:wr.heap[W.heap.size]? =some (.cells #[.int .i64 0,.slice none 0 0] 175)
 loc:wr.heap[b3]? =some (.cells #[.int .i64 2,v] 175)
 acc:Gro 3 184 fR B fs css v wr
 b3:W.heap.size<b3/\b3<B
 pb:p.pb<W.heap.size
 few:fs.length<=8
 val:(fs=[]/\v=.slice none 0 0)\/∃m g cap,fs.length=m+1/\v=.slice (some ⟨g,0,none⟩) (m+1) cap
section
variable {p:Prs} {W wr w':World} {b3 B:Nat} {fs:List Fld} {css:List (List Value)} {v:Value}
theorem TyL.next(h:TyL p W b3 B fs css v wr)(ho:Off p.S wr w'):TyL p W b3 B fs css v w':=
 ⟨h.off.trans ho,ho.heap (fun e=>by have:=h.pb;have e:W.heap.size=p.pb:=e;omega) h.res,ho.heap (fun e=>by have:=h.pb;have:=h.b3;have e:b3=p.pb:=e;omega) h.loc,
  h.acc.stays aV (cZ.of_off ho fun b hb=>.inl (by have:=h.pb;have:=h.b3;have hb:b=p.pb:=hb;omega)),h.b3,h.pb,h.few,h.val⟩
theorem TyL.last(h:TyL p W b3 B fs css v wr){m g cap:Nat}(hm:fs.length=m+1)(hv:v=.slice (some ⟨g,0,none⟩) (m+1) cap):wr.cell? ⟨g,m*3,none⟩=some (.string (iL fs)):=by
 obtain⟨a,c,e,-,-,h3⟩:=h.acc.row aV;rw[hv] at e;obtain⟨b,o,ha,-,hc⟩:=h3 (fun e=>by rw[e] at hm;simp at hm);injection e with e1 e2 e3
 rw[ha] at e1;cases e1;obtain⟨x,hx,-⟩:=getElem?_of_lt (l:=fs) (k:=m) VG;obtain⟨cs,⟨ct,rfl,-⟩,-,hj⟩:=hc m x hx;have:=hj 0 (.string x.1) rfl
 have hl:iL fs=x.1:=by
  unfold iL;rw[List.getLast?_eq_getElem?,hm,show m+1-1=m by omega,hx];rfl
 rw[hl];simpa using this
end
theorem oL{p:Prs}{W w:World}{r:PR Ty}{i j:Nat}{t:Ty}{k:Int}{sa:Option Addr}{sn sc:Nat}{N:Nat->Prop}(hr:r=.ok (t,j))(yN:i<j)(ho:Off p.S W w)(ha:p.At w j)(hW:p.At W i)(ht:iN N w t [.int .i64 k,.slice sa sn sc])(hN:∀b,N b->W.heap.size<b):
  Ran p.S W r (fun t j e w'=>∃k sa sn sc,e=.returned (.agg #[.int .i64 k,.slice sa sn sc])/\iN (bD W.heap.size) w' t [.int .i64 k,.slice sa sn sc]/\p.At w' j/\i<j) (.returned (.agg #[.int .i64 k,.slice sa sn sc])) ((w.setCell ⟨W.heap.size,0,none⟩ (.int .i64 k)).setCell ⟨W.heap.size,1,none⟩ (.slice sa sn sc)):=by
 have pU:Off (fun b=>b=W.heap.size) w ((w.setCell ⟨W.heap.size,0,none⟩ (.int .i64 k)).setCell ⟨W.heap.size,1,none⟩ (.slice sa sn sc)):=(Off.setCell (S:=fun b=>b=W.heap.size) w rfl).trans (Off.setCell (S:=fun b=>b=W.heap.size) _ rfl);refine Ran.good hr ⟨k,sa,sn,sc,rfl,eS _ _ _ _ _ _ (fun b hb _=>⟨Nat.le_of_lt (hN b hb),fun o v hv=>pU.cell (fun e=>by have:=hN b hb;omega) hv⟩) ht,?_,yN⟩ ?_
 ·exact ha.off pU (fun e=>by have:=hW.blt;omega) (fun e=>by have:=cU (hW.toks i _ hW.tok).1.1;omega) (fun k hk e=>by have:=hW.glob.big;omega)
 ·exact Off.fresh ((ho.or _).trans (pU.mono fun b hb=>.inr (Nat.le_of_eq hb.symm))) (Nat.le_refl _)
theorem Prs.At.above{p:Prs}{W w w':World}{i j:Nat}(hW:p.At W i)(h:p.At w j)(ho:Off (fun k=>W.heap.size<=k) w w'):p.At w' j:=
 h.off ho (fun e=>by have:=hW.blt;omega) (fun e=>by have:=cU (hW.toks i _ hW.tok).1.1;omega) (fun k hk e=>by have:=hW.glob.big;omega)
theorem eD.off{α:Type}{enc:(Nat->Prop)->World->α->List Value->Prop}(he:eD enc){S N:Nat->Prop}{w w':World}{x:α}{cs:List Value}(h:enc N w x cs)(ho:Off S w w')(hS:∀b,S b->¬N b):enc N w' x cs:=
 he _ _ _ _ _ _ (fun b hb _=>⟨hb,fun _ _ hv=>ho.cell (fun hs=>hS b hs hb) hv⟩) h
theorem eD.wide{α:Type}{enc:(Nat->Prop)->World->α->List Value->Prop}(he:eD enc){N N':Nat->Prop}{w:World}{x:α}{cs:List Value}(h:enc N w x cs)(hN:∀b,N b->b<w.heap.size->N' b):enc N' w x cs:=
 he _ _ _ _ _ _ (fun b hb hl=>⟨hN b hb hl,fun _ _ hv=>hv⟩) h
theorem TyL.added{p:Prs}{W w9 qJ:World}{b3 B g cap:Nat}{fs:List Fld}{css:List (List Value)}{v:Value}{x:Fld}{news:List Value}(h:TyL p W b3 B fs css v w9)(hfew:fs.length<8)(hx:fR (lC B v) w9 x news)(hl:news.length=3)
  (pP:qJ.ownsRow B 184 3 (.slice (some ⟨g,0,none⟩) (fs.length+1) cap) (fs.length+1) (css.flatten++news)) (pO:w9.grownBy qJ v.ownBlock) (qA:v.ownBlock=some g\/g=w9.heap.size):
  TyL p W b3 B (fs++[x]) (css++[news]) (.slice (some ⟨g,0,none⟩) (fs.length+1) cap) (qJ.setCell ⟨b3,1,none⟩ (.slice (some ⟨g,0,none⟩) (fs.length+1) cap)):=by
 have hA:=h.acc.added aV hx hl pP pO qA;have qK:=h.acc.big;have hb:=h.b3;have pT:=h.acc.lt;have o1:Off (fun k=>B<=k) w9 qJ:=⟨pO.os,pO.tape,pO.output,pO.size,fun k hk hn=>pO.block k hk (fun e=>hn (pT k e.symm).1)⟩;have o2:Off (fun k=>k=b3) qJ (qJ.setCell ⟨b3,1,none⟩ (.slice (some ⟨g,0,none⟩) (fs.length+1) cap)):=Off.setCell (S:=fun k=>k=b3) qJ rfl;refine⟨?_,?_,?_,hA.stays aV (cZ.of_off o2 fun b pR=>.inl VG),hb,h.pb,VZ,.inr ⟨fs.length,g,cap,VL,rfl⟩⟩
 ·exact Off.fresh ((h.off.or _).trans ((o1.mono fun k hk=>.inr VG).trans (o2.mono fun k hk=>.inr VG))) (Nat.le_refl _)
 ·exact o2.heap VG (o1.heap VG h.res)
 ·rw[aO (o1.heap VG h.loc)];rfl
theorem TyL.step{p:Prs}{W w6 w7 qJ:World}{b3 B g cap n1 i0 j2:Nat}{fs:List Fld}{css:List (List Value)}{v:Value}{a:ByteArray}{t:Ty}{k:Int}{sa:Option Addr}{sn sc:Nat}(hW:p.At W i0)(h6:TyL p W b3 B fs css v w6)(hfew:fs.length<8)
  (qC:Off p.S (w6.alloc (.cells #[.string a,.int .i64 0,.slice none 0 0] 184)) w7) (rX:p.At w7 j2) (tI:iN (bD (w6.alloc (.cells #[.string a,.int .i64 0,.slice none 0 0] 184)).heap.size) w7 t [.int .i64 k,.slice sa sn sc]) (hs:a.size<=8000)
  (pP:qJ.ownsRow B 184 3 (.slice (some ⟨g,0,none⟩) n1 cap) n1 (css.flatten++[.string a,.int .i64 k,.slice sa sn sc])) (hn:n1=fs.length+1) (pO:(((w7.setCell ⟨w6.heap.size,1,none⟩ (.int .i64 k)).setCell ⟨w6.heap.size,2,none⟩ (.slice sa sn sc)).alloc (.cells #[.string a,.int .i64 k,.slice sa sn sc] 184)).grownBy qJ v.ownBlock) (qA:v.ownBlock=some g\/g=w7.heap.size+1):
  qJ.heap[b3]? =some (.cells #[.int .i64 2,v] 175)/\TyL p W b3 B (fs++[(a,t)]) (css++[[.string a,.int .i64 k,.slice sa sn sc]]) (.slice (some ⟨g,0,none⟩) n1 cap) (qJ.setCell ⟨b3,1,none⟩ (.slice (some ⟨g,0,none⟩) n1 cap))/\
  p.At (qJ.setCell ⟨b3,1,none⟩ (.slice (some ⟨g,0,none⟩) n1 cap)) j2/\iN (bD (w6.heap.size+1)) (qJ.setCell ⟨b3,1,none⟩ (.slice (some ⟨g,0,none⟩) n1 cap)) t [.int .i64 k,.slice sa sn sc]/\
  (qJ.setCell ⟨b3,1,none⟩ (.slice (some ⟨g,0,none⟩) n1 cap)).heap[w6.heap.size]? =some (.cells #[.string a,.int .i64 k,.slice sa sn sc] 184):=by
 subst hn;have hb:=h6.b3;have qK:=h6.acc.big;have tZ:=h6.pb;have pT:=h6.acc.lt;have qX:(w6.alloc (.cells #[.string a,.int .i64 0,.slice none 0 0] 184)).heap.size=w6.heap.size+1:=VL;have o7:Off p.S w6 w7:=(Off.of_below (aA w6 (.cells #[.string a,.int .i64 0,.slice none 0 0] 184))).trans qC;have GK:w6.heap.size+1<=w7.heap.size:=by have:=qC.size;omega
 have o8:Off (fun b=>b=w6.heap.size) w7 ((w7.setCell ⟨w6.heap.size,1,none⟩ (.int .i64 k)).setCell ⟨w6.heap.size,2,none⟩ (.slice sa sn sc)):=(Off.setCell (S:=fun b=>b=w6.heap.size) w7 rfl).trans (Off.setCell (S:=fun b=>b=w6.heap.size) _ rfl);have o9:Off (fun b=>b=w6.heap.size) w7 (((w7.setCell ⟨w6.heap.size,1,none⟩ (.int .i64 k)).setCell ⟨w6.heap.size,2,none⟩ (.slice sa sn sc)).alloc (.cells #[.string a,.int .i64 k,.slice sa sn sc] 184)):=o8.trans (Off.of_below (aA _ _));have O9:Off p.S w6 (((w7.setCell ⟨w6.heap.size,1,none⟩ (.int .i64 k)).setCell ⟨w6.heap.size,2,none⟩ (.slice sa sn sc)).alloc (.cells #[.string a,.int .i64 k,.slice sa sn sc] 184)):=Off.fresh ((o7.or w6.heap.size).trans (o9.mono fun b hb=>.inr VG)) (Nat.le_refl _);have h9:=h6.next O9
 have hx:fR (lC B v) (((w7.setCell ⟨w6.heap.size,1,none⟩ (.int .i64 k)).setCell ⟨w6.heap.size,2,none⟩ (.slice sa sn sc)).alloc (.cells #[.string a,.int .i64 k,.slice sa sn sc] 184)) (a,t) [.string a,.int .i64 k,.slice sa sn sc]:=by
  exact TR
 have zZ:(((w7.setCell ⟨w6.heap.size,1,none⟩ (.int .i64 k)).setCell ⟨w6.heap.size,2,none⟩ (.slice sa sn sc)).alloc (.cells #[.string a,.int .i64 k,.slice sa sn sc] 184)).heap.size=w7.heap.size+1:=VL;have hT:=h9.added hfew hx rfl pP pO Y3;have EY:w7.heap[w6.heap.size]? =some (.cells #[.string a,.int .i64 0,.slice none 0 0] 184):=qC.heap (fun e=>by have e:w6.heap.size=p.pb:=e;omega) (heap_alloc_new w6 (.cells #[.string a,.int .i64 0,.slice none 0 0] 184))
 have hf8:(((w7.setCell ⟨w6.heap.size,1,none⟩ (.int .i64 k)).setCell ⟨w6.heap.size,2,none⟩ (.slice sa sn sc)).alloc (.cells #[.string a,.int .i64 k,.slice sa sn sc] 184)).heap[w6.heap.size]? =some (.cells #[.string a,.int .i64 k,.slice sa sn sc] 184):=by
  refine aF (aA _ _) ?_;rw[aO (aO EY _) _];rfl
 have xP:Off (fun b=>B<=b/\b<w6.heap.size) (((w7.setCell ⟨w6.heap.size,1,none⟩ (.int .i64 k)).setCell ⟨w6.heap.size,2,none⟩ (.slice sa sn sc)).alloc (.cells #[.string a,.int .i64 k,.slice sa sn sc] 184)) qJ:=⟨pO.os,pO.tape,pO.output,pO.size,fun b hb hn=>pO.block b hb (fun e=>hn (by have:=pT b e.symm;exact this))⟩;have KX:Off (fun b=>b=b3) qJ (qJ.setCell ⟨b3,1,none⟩ (.slice (some ⟨g,0,none⟩) (fs.length+1) cap)):=Off.setCell (S:=fun b=>b=b3) qJ rfl;refine⟨xP.heap VG h9.loc,hT,?_,?_,?_⟩
 ·exact hW.above rX ((o9.mono fun b hb=>VG).trans ((xP.mono fun b hb=>VG).trans (KX.mono fun b hb=>VG)))
 ·rw[qX] at tI;exact eS.off tI ((o9.mono (S':=fun b=>b<=w6.heap.size) fun b hb=>VG).trans ((xP.mono fun b hb=>VG).trans (KX.mono fun b hb=>VG))) (fun b hb hn=>by have hn:w6.heap.size+1<=b:=hn;omega)
 ·exact KX.heap VG (xP.heap VG hf8)
theorem iT{l:List Tok}{i:Nat}{than:ByteArray}{any:Bool}(hq:cY l i=false):fQ l i than any=.error ((aH l i).pos,11):=by unfold fQ;rw[hq];rfl
theorem Ran.bad'{α:Type}{S:Nat->Prop}{w w':World}{r:PR α}{V:α->Nat->Ending->World->Prop}{x:Int×Int}(hr:r=.error x)(ho:Off S w w'):
  Ran S w r V (.panicked [{v:=.iface 205 (.agg #[.int .i64 x.1,.int .i64 x.2]),recovered:=false}]) w':=.inl ⟨x,hr,rfl,ho⟩
theorem typed_int(p:Prs)(f:Nat)(w:World)(i:Nat)(h:p.At w i)(hq:isP p.l i kIntW=true):Calls Tryz.prog 136 #[.pointer (some ⟨p.pb,0,none⟩)] w
  (Ran p.S w (fL p.l (f+1) i) fun t j e w'=>∃k sa sn sc,e=.returned (.agg #[.int .i64 k,.slice sa sn sc])/\iN (bD w.heap.size) w' t [.int .i64 k,.slice sa sn sc]/\p.At w' j/\i<j):=by
 have HR:Hid (fL p.l (f+1) i=.ok (.mk 0 [],i+1)):=zh (by unfold fL;rw[if_pos hq]);have HH:=zh (eX p (w.alloc (.cells #[.int .i64 0,.slice none 0 0] 175)) i kIntW (h.later (aA _ _)) hq);have HS:=zh h;have HO:=zh (Off.of_below (S:=p.S) (aA w (.cells #[.int .i64 0,.slice none 0 0] 175)));have HB:=zh (heap_alloc_new w (.cells #[.int .i64 0,.slice none 0 0] 175));clear h hq;go_enter Tryz.func136,Tryz.ntmps136;go_wp2_with(go_at_call 141;refine HH.out.mono ?_;rintro e w1 ⟨rfl,qD,pV⟩;have pS:=pV.heap W7 HB.out;obtain⟨c0,c1,f0,f1⟩:=bxT2 pS);refine bodyPost_ret (v:=.agg #[.int .i64 0,.slice none 0 0]) (by simp[results,Tryz.results136,go_sem,c0,c1]) rfl ?_;refine oL (N:=fun _=>False) HR.out VG (HO.out.trans pV) qD HS.out YG (fun b hb=>hb.elim)
theorem typed_bool(p:Prs)(f:Nat)(w:World)(i:Nat)(h:p.At w i)(vY:isP p.l i kIntW=false)(hq:isP p.l i kBool=true):Calls Tryz.prog 136 #[.pointer (some ⟨p.pb,0,none⟩)] w
  (Ran p.S w (fL p.l (f+1) i) fun t j e w'=>∃k sa sn sc,e=.returned (.agg #[.int .i64 k,.slice sa sn sc])/\iN (bD w.heap.size) w' t [.int .i64 k,.slice sa sn sc]/\p.At w' j/\i<j):=by
 have HR:Hid (fL p.l (f+1) i=.ok (.mk 1 [],i+1)):=zh (by unfold fL;rw[if_neg (by rw[vY];simp),if_pos hq]);have HH0:=zh (aX p (w.alloc (.cells #[.int .i64 0,.slice none 0 0] 175)) i kIntW (h.later (aA _ _)) vY);have HH:=zh (fun W(hW:p.At W i)=>eX p W i kBool hW hq);have HS:=zh h;have HO:=zh (Off.of_below (S:=p.S) (aA w (.cells #[.int .i64 0,.slice none 0 0] 175)));have HB:=zh (heap_alloc_new w (.cells #[.int .i64 0,.slice none 0 0] 175));clear h hq vY;go_enter Tryz.func136,Tryz.ntmps136;go_wp2_with(first|(go_at_call 141;refine(HH.out w1 qD).mono ?_;rintro e w2 ⟨rfl,qL,pU⟩;have pR:=pU.heap W7 pS;obtain⟨c0,c1,f0,f1⟩:=bxT2 pR)|(go_at_call 141;refine HH0.out.mono ?_;rintro e w1 ⟨rfl,qD,pV⟩;have pS:=pV.heap W7 HB.out));refine bodyPost_ret (v:=.agg #[.int .i64 1,.slice none 0 0]) (by simp[results,Tryz.results136,go_sem,c0,c1]) rfl ?_;refine oL (N:=fun _=>False) HR.out VG (HO.out.trans (pV.trans pU)) qL HS.out YG (fun b hb=>hb.elim)
theorem typed_more(p:Prs)(f:Nat)(hf:f<=8010)(G8:TypedOk p f)(w:World)(i:Nat)(h:p.At w i)(sE:p.l.length<f+1+i)(vY:isP p.l i kIntW=false)(hq:isP p.l i kBool=false):Calls Tryz.prog 136 #[.pointer (some ⟨p.pb,0,none⟩)] w
  (Ran p.S w (fL p.l (f+1) i) fun t j e w'=>∃k sa sn sc,e=.returned (.agg #[.int .i64 k,.slice sa sn sc])/\iN (bD w.heap.size) w' t [.int .i64 k,.slice sa sn sc]/\p.At w' j/\i<j):=by
 obtain⟨i0,tF,rS,qI,qH⟩:=info_parts fldInfo;have HR:Hid (fL p.l (f+1) i=(dB p.l i bY).bnd fun _ j=>if isP p.l j gR then .ok (.mk 2 [],j+1) else eM p.l (fL p.l f) (p.l.length+1) [] j):=zh (by rw[fL];rw[if_neg (by rw[vY];simp),if_neg X0]);have HRec:=zh G8;have HH0:=zh (aX p (w.alloc (.cells #[.int .i64 0,.slice none 0 0] 175)) i kIntW (h.later (aA _ _)) vY);have HH:=zh (fun W(hW:p.At W i)=>aX p W i kBool hW hq);have OL:=zh (fun W(hW:p.At W i)=>cR p W i bY hW);have HS:=zh h;have HO:=zh (Off.of_below (S:=p.S) (aA w (.cells #[.int .i64 0,.slice none 0 0] 175)));have HB:=zh (heap_alloc_new w (.cells #[.int .i64 0,.slice none 0 0] 175));have pQ:w.heap.size≠p.pb:=V5;clear h hq vY G8;go_enter Tryz.func136,Tryz.ntmps136;go_wp2_with(first|(go_at_call 131;refine(OL.out w2 qL).mono ?_;rintro e w3 (⟨x,hx,rfl,pY⟩|⟨⟨⟩,j,hx,⟨rfl,rY⟩,pY⟩))|(go_at_call 141;refine(mN p (w3.alloc (.cells #[.int .i64 2,.slice none 0 0] 175)) j gR (rY.later (aA _ _))).mono ?_;rintro e w4 ⟨rfl,rR,pW⟩;have hlt3:=rY.blt;have PT:=zh (pW.heap (by intro e;have e:w3.heap.size=p.pb:=e;omega) (heap_alloc_new w3 (.cells #[.int .i64 2,.slice none 0 0] 175)));have hr4:=zh (pW.heap pQ (aF (aA w3 (.cells #[.int .i64 2,.slice none 0 0] 175)) (pY.heap pQ (pU.heap pQ (pV.heap pQ HB.out)))));obtain⟨c0,c1,f0,f1⟩:=bxT2 PT.out;obtain⟨d0,d1,g0,g1⟩:=bxT2 hr4.out)|(go_at_call 141;refine(HH.out w1 qD).mono ?_;rintro e w2 ⟨rfl,qL,pU⟩)|(go_at_call 141;refine HH0.out.mono ?_;rintro e w1 ⟨rfl,qD,pV⟩))
 ·exact⟨rfl,Ran.bad (HR.out.trans (PR.bnd_bad hx)) (HO.out.trans (pV.trans (pU.trans pY)))⟩
 ·rename_i H4;have hj:j=i+1:=(cH hx).1;rw[if_pos H4] at rR;have EF:Hid (fL p.l (f+1) i=.ok (.mk 2 [],j+1)):=zh (HR.out.trans ((PR.bnd_ok hx).trans (if_pos H4)));refine bodyPost_ret (v:=.agg #[.int .i64 2,.slice none 0 0]) (by simp[results,Tryz.results136,go_sem,d0,d1]) rfl ?_;refine oL (N:=fun _=>False) EF.out VG (HO.out.trans (pV.trans (pU.trans (pY.trans ((Off.of_below (aA w3 (.cells #[.int .i64 2,.slice none 0 0] 175))).trans pW))))) rR HS.out YG (fun b hb=>hb.elim)
 ·rename_i H4;have hj:j=i+1:=(cH hx).1;rw[if_neg (by rw[H4];simp)] at rR;have EF:Hid (fL p.l (f+1) i=eM p.l (fL p.l f) (p.l.length+1) [] j):=zh (HR.out.trans ((PR.bnd_ok hx).trans (if_neg (by rw[H4];simp))));have E6:=zh (HO.out.trans (pV.trans (pU.trans (pY.trans ((Off.of_below (aA w3 (.cells #[.int .i64 2,.slice none 0 0] 175))).trans pW)))));have hsz3:w.heap.size<w3.heap.size:=(Array.getElem?_eq_some_iff.1 (pY.heap pQ (pU.heap pQ (pV.heap pQ HB.out)))).1;have LC:w3.heap.size<w4.heap.size:=(Array.getElem?_eq_some_iff.1 PT.out).1;have HJ:=zh hj;clear hj;have SB:=zh rR;have HTy:Hid (TyL p w w3.heap.size w4.heap.size [] [] (.slice none 0 0) w4):=zh ⟨E6.out,hr4.out,PT.out,Gro.first _ _ _ _,⟨hsz3,LC⟩,HS.out.blt,Nat.zero_le _,.inl ⟨rfl,rfl⟩⟩;clear pV pU pY pW qD qL rY rR PT hr4 E6 HR H4 c0 c1 f0 f1 d0 d1 g0 g1 HH0 HH OL HB HO hx;generalize w3.heap.size=b3 at *;generalize w4.heap.size=B at *;go_loopw [4] (fun s4 wr=>∃(q F:Nat)(fs:List Fld)(css:List (List Value))(v:Value),Hid (TyL p w b3 B fs css v wr/\p.At wr q/\fL p.l (f+1) i=eM p.l (fL p.l f) (F+1) fs q/\p.l.length<=F+q/\i<q)) (fun _ wr=>p.l.length-posOf wr p.pb)
  case atStart=>exact⟨j,p.l.length,[],[],_,zh ⟨HTy.out,SB.out,EF.out,VG,by have:=HJ.out;omega⟩⟩
  case round=>
   obtain⟨q,F,fs,css,v,HT⟩:=hrel;(rename World=>wr);have hlen:=HT.out.2.1.len;have H4:=HT.out.2.2.2;rcases HT.out.1.val with⟨rfl,rfl⟩|⟨m,g,cap,hm,rfl⟩
   ·cases uL:cY p.l q with
    |false=>
     as_aux_lemma=>
      go_wp2_with(first|(go_at_call 185;refine(gY p wr q HT.out.2.1).mono ?_;rintro e w5 ⟨rfl,hb5⟩;rw[uL];have tX:=zh (HT.out.2.1.later hb5);have EZ:=zh (HT.out.1.next (Off.of_below hb5));obtain⟨c0,c1,f0,f1⟩:=bxT2 EZ.out.loc)|(go_at_call 186;refine(mT p w5 q ⟨#[]⟩ false tX.out).mono ?_;rintro e w6 (⟨x,hx,rfl,qE⟩|⟨a,j1,hx,⟨rfl,tK,LG⟩,qE⟩)<;>have EA:=zh (EZ.out.next qE)))
      ·exact U8
      ·rw[iT uL] at hx;cases hx
    |true=>
     as_aux_lemma=>
      go_wp2_with(first|(go_at_call 185;refine(gY p wr q HT.out.2.1).mono ?_;rintro e w5 ⟨rfl,hb5⟩;rw[uL];have tX:=zh (HT.out.2.1.later hb5);have EZ:=zh (HT.out.1.next (Off.of_below hb5));obtain⟨c0,c1,f0,f1⟩:=bxT2 EZ.out.loc)|(go_at_call 144;refine(eY p w5 q _ _ tX.out).mono ?_;rintro e w5' (⟨DX,rfl,rfl⟩|⟨DX,rfl,L1⟩)<;>first|(cases DX;done)|skip)|(go_at_call 186;refine(mT p w5 q ⟨#[]⟩ false tX.out).mono ?_;rintro e w6 (⟨x,hx,rfl,qE⟩|⟨a,j1,hx,⟨rfl,tK,LG⟩,qE⟩)<;>have EA:=zh (EZ.out.next qE))|(go_at_call 136;have KM:=laterP_ok hx;refine(HRec.out j1 (w6.alloc (.cells #[.string a,.int .i64 0,.slice none 0 0] 184)) (tK.later (aA _ _)) VG).mono ?_;rintro e w7 (⟨x2,rA,rfl,qC⟩|⟨t,j2,rA,⟨k,sa,sn,sc,rfl,tI,rX,LQ⟩,qC⟩)<;>have EY:=zh (qC.heap (fun e=>XO) (heap_alloc_new w6 (.cells #[.string a,.int .i64 0,.slice none 0 0] 184)))<;>have MK:=zh (EA.out.next ((Off.of_below (aA w6 (.cells #[.string a,.int .i64 0,.slice none 0 0] 184))).trans qC))<;>have sL:=EA.out.acc.big<;>have hn6:¬b3=w6.heap.size:=VG<;>have hn6':¬w6.heap.size=b3:=VG<;>obtain⟨c0',JE,f0',f1'⟩:=bxT2 MK.out.loc<;>obtain⟨d0,d1,d2,e0,e1,e2⟩:=bxT3 EY.out)|(at_builtin;have O9:Off p.S w6 (((w7.setCell ⟨w6.heap.size,1,none⟩ (.int .i64 k)).setCell ⟨w6.heap.size,2,none⟩ (.slice sa sn sc)).alloc (.cells #[.string a,.int .i64 k,.slice sa sn sc] 184)):=Off.fresh (((Off.of_below (S:=p.S) (aA w6 (.cells #[.string a,.int .i64 0,.slice none 0 0] 184))).trans qC).or w6.heap.size |>.trans (((Off.setCell (S:=fun b=>p.S b\/w6.heap.size<=b) w7 (.inr (Nat.le_refl _))).trans (Off.setCell (S:=fun b=>p.S b\/w6.heap.size<=b) _ (.inr (Nat.le_refl _)))).trans (Off.of_below (aA _ _)))) (Nat.le_refl _);have vC:=zh (EA.out.next O9);have rN:=vC.out.acc.big;have qN:=vC.out.acc.own;refine wpList_append_lies _ rfl _ _ 126 rfl B 184 i0 (.agg #[.string ByteArray.empty,.int .i64 0,.slice none 0 0]) 3 48 Tryz.underlying126 tF rS qI qH rfl VG (.slice none 0 0) 0 css.flatten WF (by simpa using qN) ⟨w7.heap.size,0,none⟩ 1 1 [.string a,.int .i64 k,.slice sa sn sc] WF rfl (World.news_of_block (cs:=#[.string a,.int .i64 k,.slice sa sn sc]) (t:=184) (fr:=(0,0)) WN) VX VG VR VG (by simpa using rN) (w7.heap.size+1) VL ?_))
      ·have pZ:=zh (HT.out.2.2.1.trans ((fM uL).trans (PR.bnd_ok (if_pos (show 0<8 by decide)))));have BG:Hid (fQ p.l q (iL ([]:List Fld)) (decide (0<([]:List Fld).length))=_):=zh hx;exact⟨rfl,Ran.bad' (pZ.out.trans (PR.bnd_bad BG.out)) EA.out.off⟩
      ·have pZ:=zh (HT.out.2.2.1.trans ((fM uL).trans (PR.bnd_ok (if_pos (show 0<8 by decide)))));have BG:Hid (fQ p.l q (iL ([]:List Fld)) (decide (0<([]:List Fld).length))=_):=zh hx;exact⟨rfl,Ran.bad' (pZ.out.trans ((PR.bnd_ok BG.out).trans (PR.bnd_bad rA))) MK.out.off⟩
      ·have pZ:=zh (HT.out.2.2.1.trans ((fM uL).trans (PR.bnd_ok (if_pos (show 0<8 by decide)))));have BG:Hid (fQ p.l q (iL ([]:List Fld)) (decide (0<([]:List Fld).length))=_):=zh hx;intro g' cap' qJ pP pO qA _;obtain⟨CS,I8,tV,CC,IS⟩:=EA.out.step HS.out VI qC rX tI LG pP rfl pO qA;obtain⟨m0,m1,n0,n1⟩:=bxT2 CS;obtain⟨q0,q1,q2,r0,r1,r2⟩:=bxT3 IS;have RE:=zh I8;have rW:=zh rA;have HMr:=zh (more_any p _ j2 _ t k _ gR tV CC (Nat.le_trans (lP f _ t j2 rA) VG));clear pP pO qA CS I8 tV CC IS tI rX qC EY MK O9 vC rN qN c0' JE f0' f1' d0 d1 d2 e0 e1 e2 hx rA;go_wp2_with(go_at_call 187;refine HMr.out.mono ?_;rintro e qS (⟨x3,sW,rfl,qF⟩|⟨bb,j3,sW,⟨rfl,rI⟩,qF⟩)<;>have wW:=zh (RE.out.next qF)<;>obtain⟨y0,y1,z0,z1⟩:=bxT2 wW.out.loc<;>obtain⟨u0',u1',v0',v1'⟩:=bxT2 wW.out.res)
       ·exact U4
       ·rename_i uM;subst uM;have hR:=pZ.out.trans ((PR.bnd_ok BG.out).trans ((PR.bnd_ok rW.out).trans ((PR.bnd_ok sW).trans (if_pos rfl))));have PY:=pA sW;refine bodyPost_ret (v:=.agg #[.int .i64 2,.slice (some ⟨g',0,none⟩) 1 cap']) (by simp[results,Tryz.results136,go_sem,u0',u1']) rfl ?_;exact US
       ·exact TM
   ·have hmb:(m:Int)+1<=8:=by have:=HT.out.1.few;omega
    cases uL:cY p.l q with
    |false=>
     as_aux_lemma=>
      go_wp2_with(first|(go_at_call 185;refine(gY p wr q HT.out.2.1).mono ?_;rintro e w5 ⟨rfl,hb5⟩;rw[uL];have tX:=zh (HT.out.2.1.later hb5);have EZ:=zh (HT.out.1.next (Off.of_below hb5));obtain⟨c0,c1,f0,f1⟩:=bxT2 EZ.out.loc;have cl:=EZ.out.last hm rfl)|(go_at_call 186;refine(mT p w5 q (iL fs) true tX.out).mono ?_;rintro e w6 (⟨x,hx,rfl,qE⟩|⟨a,j1,hx,⟨rfl,tK,LG⟩,qE⟩)<;>have EA:=zh (EZ.out.next qE)))
      ·exact U8
      ·rw[iT uL] at hx;cases hx
    |true=>
     as_aux_lemma=>
      go_wp2_with(first|(go_at_call 185;refine(gY p wr q HT.out.2.1).mono ?_;rintro e w5 ⟨rfl,hb5⟩;rw[uL];have tX:=zh (HT.out.2.1.later hb5);have EZ:=zh (HT.out.1.next (Off.of_below hb5));obtain⟨c0,c1,f0,f1⟩:=bxT2 EZ.out.loc;have cl:=EZ.out.last hm rfl)|(go_at_call 144;refine(eY p w5 q _ _ tX.out).mono ?_;rintro e w5' (⟨DX,rfl,rfl⟩|⟨DX,rfl,L1⟩))|(go_at_call 186;refine(mT p w5 q (iL fs) true tX.out).mono ?_;rintro e w6 (⟨x,hx,rfl,qE⟩|⟨a,j1,hx,⟨rfl,tK,LG⟩,qE⟩)<;>have EA:=zh (EZ.out.next qE))|(go_at_call 136;have KM:=laterP_ok hx;refine(HRec.out j1 (w6.alloc (.cells #[.string a,.int .i64 0,.slice none 0 0] 184)) (tK.later (aA _ _)) VG).mono ?_;rintro e w7 (⟨x2,rA,rfl,qC⟩|⟨t,j2,rA,⟨k,sa,sn,sc,rfl,tI,rX,LQ⟩,qC⟩)<;>have EY:=zh (qC.heap (fun e=>XO) (heap_alloc_new w6 (.cells #[.string a,.int .i64 0,.slice none 0 0] 184)))<;>have MK:=zh (EA.out.next ((Off.of_below (aA w6 (.cells #[.string a,.int .i64 0,.slice none 0 0] 184))).trans qC))<;>have sL:=EA.out.acc.big<;>have hn6:¬b3=w6.heap.size:=VG<;>have hn6':¬w6.heap.size=b3:=VG<;>obtain⟨c0',JE,f0',f1'⟩:=bxT2 MK.out.loc<;>obtain⟨d0,d1,d2,e0,e1,e2⟩:=bxT3 EY.out)|(at_builtin;have O9:Off p.S w6 (((w7.setCell ⟨w6.heap.size,1,none⟩ (.int .i64 k)).setCell ⟨w6.heap.size,2,none⟩ (.slice sa sn sc)).alloc (.cells #[.string a,.int .i64 k,.slice sa sn sc] 184)):=Off.fresh (((Off.of_below (S:=p.S) (aA w6 (.cells #[.string a,.int .i64 0,.slice none 0 0] 184))).trans qC).or w6.heap.size |>.trans (((Off.setCell (S:=fun b=>p.S b\/w6.heap.size<=b) w7 (.inr (Nat.le_refl _))).trans (Off.setCell (S:=fun b=>p.S b\/w6.heap.size<=b) _ (.inr (Nat.le_refl _)))).trans (Off.of_below (aA _ _)))) (Nat.le_refl _);have vC:=zh (EA.out.next O9);have rN:=vC.out.acc.big;have qN:=vC.out.acc.own;refine wpList_append_lies _ rfl _ _ 126 rfl B 184 i0 (.agg #[.string ByteArray.empty,.int .i64 0,.slice none 0 0]) 3 48 Tryz.underlying126 tF rS qI qH rfl VG (.slice (some ⟨g,0,none⟩) (m+1) cap) (m+1) css.flatten WF (by simpa[hm] using qN) ⟨w7.heap.size,0,none⟩ 1 1 [.string a,.int .i64 k,.slice sa sn sc] WF rfl (World.news_of_block (cs:=#[.string a,.int .i64 k,.slice sa sn sc]) (t:=184) (fr:=(0,0)) WN) VX VG VR VG (by simpa using rN) (w7.heap.size+1) VL ?_))
      ·have pZ:=zh (HT.out.2.2.1.trans ((fM uL).trans (PR.bnd_ok (if_pos (show fs.length<8 by rw[hm];simp at DX;omega)))));have BG:=zh ((congrArg (fQ p.l q (iL fs)) (decide_eq_true (show 0<fs.length by omega))).trans hx);exact⟨rfl,Ran.bad' (pZ.out.trans (PR.bnd_bad BG.out)) EA.out.off⟩
      ·have pZ:=zh (HT.out.2.2.1.trans ((fM uL).trans (PR.bnd_ok (if_pos (show fs.length<8 by rw[hm];simp at DX;omega)))));have BG:=zh ((congrArg (fQ p.l q (iL fs)) (decide_eq_true (show 0<fs.length by omega))).trans hx);exact⟨rfl,Ran.bad' (pZ.out.trans ((PR.bnd_ok BG.out).trans (PR.bnd_bad rA))) MK.out.off⟩
      ·have pZ:=zh (HT.out.2.2.1.trans ((fM uL).trans (PR.bnd_ok (if_pos (show fs.length<8 by rw[hm];simp at DX;omega)))));have BG:=zh ((congrArg (fQ p.l q (iL fs)) (decide_eq_true (show 0<fs.length by omega))).trans hx);intro g' cap' qJ pP pO qA _;obtain⟨CS,I8,tV,CC,IS⟩:=EA.out.step HS.out (by rw[hm];simp at DX;omega) qC rX tI LG pP (by rw[hm]) pO qA;obtain⟨m0,m1,n0,n1⟩:=bxT2 CS;obtain⟨q0,q1,q2,r0,r1,r2⟩:=bxT3 IS;have RE:=zh I8;have rW:=zh rA;have HMr:=zh (more_any p _ j2 _ t k _ gR tV CC (Nat.le_trans (lP f _ t j2 rA) VG));clear pP pO qA CS I8 tV CC IS tI rX qC EY MK O9 vC rN qN c0' JE f0' f1' d0 d1 d2 e0 e1 e2 hx rA;go_wp2_with(go_at_call 187;refine HMr.out.mono ?_;rintro e qS (⟨x3,sW,rfl,qF⟩|⟨bb,j3,sW,⟨rfl,rI⟩,qF⟩)<;>have wW:=zh (RE.out.next qF)<;>obtain⟨y0,y1,z0,z1⟩:=bxT2 wW.out.loc<;>obtain⟨u0',u1',v0',v1'⟩:=bxT2 wW.out.res)
       ·exact U4
       ·rename_i uM;subst uM;have hR:=pZ.out.trans ((PR.bnd_ok BG.out).trans ((PR.bnd_ok rW.out).trans ((PR.bnd_ok sW).trans (if_pos rfl))));have PY:=pA sW;refine bodyPost_ret (v:=.agg #[.int .i64 2,.slice (some ⟨g',0,none⟩) (m+1+1) cap']) (by simp[results,Tryz.results136,go_sem,u0',u1']) rfl ?_;exact US
       ·exact TM
      ·exact⟨rfl,Ran.bad (HT.out.2.2.1.trans ((fM uL).trans (PR.bnd_bad (if_neg (show ¬fs.length<8 by rw[hm];simp at DX;omega))))) (EZ.out.off.trans (Off.of_below L1))⟩
theorem typed_ok(p:Prs):∀f,f<=8010->TypedOk p f
 |0,_=>fun i w h hf=>by have:=h.lt;omega
 |f+1,hf=>fun i w h sE=>by
  have hr:=typed_ok p f VG
  cases h0:isP p.l i kIntW with
  |true=>exact typed_int p f w i h h0
  |false=>
   cases h1:isP p.l i kBool with
   |true=>exact typed_bool p f w i h h0 h1
   |false=>exact typed_more p f VG hr w i h sE h0 h1
theorem typed_any(p:Prs)(w:World)(i:Nat)(h:p.At w i):Calls Tryz.prog 136 #[.pointer (some ⟨p.pb,0,none⟩)] w
  (Ran p.S w (kI p.l i) fun t j e w'=>∃k sa sn sc,e=.returned (.agg #[.int .i64 k,.slice sa sn sc])/\iN (bD w.heap.size) w' t [.int .i64 k,.slice sa sn sc]/\p.At w' j/\i<j):=
 typed_ok p (p.l.length+1) (by have:=h.len;omega) i w h VG
theorem lH{l:List Tok}{i j:Nat}{t:Ty}(h:kI l i=.ok (t,j)):bU t<=l.length+1:=lP _ _ _ _ h
end Go.Proofs.YtacgopankhpnbaaGreatDoor
namespace Go.Proofs.YtacgopankhpnbaaGreatDoor
open Go.RowKit
abbrev eO:List ByteArray:=[kIf,kLet,kSet,kNot,dJ,cJ,iG]
theorem begins_word{l:List Tok}{i:Nat}(h1:(aH l i).kind≠1)(h2:(aH l i).kind≠2)(h3:(aH l i).kind≠3):iI l i=
  ((eO.any fun s=>decide ((aH l i).text=s))||decide (cT (aH l i).text≠0)||aP (aH l i).text):=by
 unfold iI;rw[if_neg h1,if_neg h2,if_neg h3]
theorem kOpen_list:bZ.toList=[40]:=by rw[Lib.toList_data]
theorem kLBrace_list:bY.toList=[123]:=by rw[Lib.toList_data]
theorem bwCells(w:World):∀(k:Nat)(x:ByteArray),eO[k]? =some x->(w.alloc (.cells (eO.map Value.string).toArray 9)).cell? ⟨w.heap.size,k,none⟩=some (.string x):=fun k x hx=>by
 rw[cell_of_row _ w.heap.size k _ _ _ (heap_alloc_new w _)];rw[List.getElem?_toArray,List.getElem?_map,hx];rfl
theorem begins_any(p:Prs)(w:World)(i:Nat)(h:p.At w i):Calls Tryz.prog 247 #[.pointer (some ⟨p.pb,0,none⟩)] w fun e w'=>e=.returned (.bool (iI p.l i))/\Below w.heap.size w w':=by
 have HA:=zh h;have HN:=zh (fun W(hW:p.At W i)=>cO p W i hW);have qX:=(h.toks i _ h.tok).2;have HM:=zh (fun W(hW:p.At W i)=>iS (aH p.l i).text W VG hW.glob);have HBt:=zh (fun W(hW:p.At W i)=>kZ (aH p.l i).text W hW.spc);have HW:=zh (fun h1 h2 h3=>begins_word (l:=p.l) (i:=i) h1 h2 h3);have qQ:Hid ((aH p.l i).kind=1->iI p.l i=true):=zh (fun e=>by unfold iI;rw[if_pos e]);have qM:Hid ((aH p.l i).kind=2->iI p.l i=(decide ((aH p.l i).text=bZ)||decide ((aH p.l i).text=bY))):=zh (fun e=>by unfold iI;rw[if_neg VG,if_pos e]);have vJ:Hid ((aH p.l i).kind=3->iI p.l i=false):=zh (fun e=>by unfold iI;rw[if_neg VG,if_neg VG,if_pos e]);clear h qX;generalize iI p.l i=r at HW qQ qM vJ ⊢;generalize aH p.l i=t at HN HM HBt HW qQ qM vJ;by_cases k1:t.kind=1
 ·have zJ:(t.kind==1)=true:=by rw[beq_iff_eq];exact k1
  go_enter Tryz.func247,Tryz.ntmps247;go_wp2_with(go_at_call 145;refine(HN.out w HA.out).mono ?_;rintro e w1 ⟨rfl,pS⟩);go_ret;exact⟨aD (qQ.out k1).symm,aB pS (aA _ _)⟩
 ·by_cases k2:t.kind=2
  ·(have k2':(t.kind==2)=true:=by rw[beq_iff_eq];exact k2);have zJ:(t.kind==1)=false:=V0;have hR:=qM.out k2;rw[<-cE,<-cE] at hR;have HR:=zh hR;clear hR;go_enter Tryz.func247,Tryz.ntmps247;go_wp2_with(go_at_call 145;refine(HN.out w HA.out).mono ?_;rintro e w1 ⟨rfl,pS⟩)
   ·go_ret;exact⟨aD (by rw[HR.out,kOpen_list,‹t.text.toList=[40]›];rfl),aB pS (aA _ _)⟩
   ·go_ret;exact⟨aD (by rw[HR.out,kOpen_list,kLBrace_list]),aB pS (aA _ _)⟩
  ·by_cases k3:t.kind=3
   ·(have k3':(t.kind==3)=true:=by rw[beq_iff_eq];exact k3);have k2':(t.kind==2)=false:=YN;have zJ:(t.kind==1)=false:=V0;go_enter Tryz.func247,Tryz.ntmps247;go_wp2_with(go_at_call 145;refine(HN.out w HA.out).mono ?_;rintro e w1 ⟨rfl,pS⟩);go_ret;exact⟨aD (vJ.out k3).symm,aB pS (aA _ _)⟩
   ·(have k3':(t.kind==3)=false:=by rw[beq_eq_false_iff_ne];exact k3);have k2':(t.kind==2)=false:=YN;have zJ:(t.kind==1)=false:=V0;go_enter Tryz.func247,Tryz.ntmps247;go_wp2_with(go_at_call 145;refine(HN.out w HA.out).mono ?_;rintro e w1 ⟨rfl,pS⟩);have HR:=zh (HW.out k1 k2 k3);have HWd:=zh (bwCells (w1.alloc (.cells #[.int .i64 t.kind,.string t.text,.int .i64 t.n,.int .i64 t.pos] 201)));have HT:=zh (aC (aA (w1.alloc (.cells #[.int .i64 t.kind,.string t.text,.int .i64 t.n,.int .i64 t.pos] 201)) (.cells (eO.map Value.string).toArray 9)) (bx (heap_alloc_new w1 (.cells #[.int .i64 t.kind,.string t.text,.int .i64 t.n,.int .i64 t.pos] 201)) 1 (u:=.string t.text) rfl).1);have KA:=zh (aB pS (aB (aA w1 (.cells #[.int .i64 t.kind,.string t.text,.int .i64 t.n,.int .i64 t.pos] 201)) (aA _ (.cells (eO.map Value.string).toArray 9))));have BK:=zh (HA.out.later KA.out);have hz:(w1.alloc (.cells #[.int .i64 t.kind,.string t.text,.int .i64 t.n,.int .i64 t.pos] 201)).heap.size=w1.heap.size+1:=VL;rw[hz] at HWd;have HAny:=zh (fun(k:Nat)(x:ByteArray)(hx:eO[k]? =some x)(e:t.text=x)=>show(eO.any fun s=>decide (t.text=s))=true from List.any_eq_true.2 ⟨x,List.mem_of_getElem? hx,by simp[e]⟩);have HNone:=zh (fun(h:∀x,x∈eO->decide (t.text=x)=false)=>show(eO.any fun s=>decide (t.text=s))=false from by rw[List.any_eq_false];intro x hx;rw[h x hx];simp);clear hz;have hlen:Hid (eO.length=7):=zh rfl;generalize hW2:(w1.alloc (.cells #[.int .i64 t.kind,.string t.text,.int .i64 t.n,.int .i64 t.pos] 201)).alloc (.cells (eO.map Value.string).toArray 9)=W2 at HWd HT KA BK;change Code.wp _ _ _ _ ((w1.alloc (.cells #[.int .i64 t.kind,.string t.text,.int .i64 t.n,.int .i64 t.pos] 201)).alloc (.cells (eO.map Value.string).toArray 9));rw[hW2];clear hW2 pS;generalize eO=L at *;(go_loop [26] (fun idx=>∃k:Nat,k<=7/\idx=.int .i64 k/\Hid (∀x,x∈L.take k->decide (t.text=x)=false)) (fun idx=>7-(intOf idx).toNat));case atStart=>exact⟨0,Nat.zero_le _,rfl,zh VL⟩
    case round=>
     obtain⟨k,hk,rfl,HP⟩:=hrel;by_cases pT:k<7
     ·obtain⟨x,hx,-⟩:=getElem?_of_lt (l:=L) (k:=k) (by rw[hlen.out];exact pT);have hc:=HWd.out k x hx;have hT:=HT.out;have HX:=zh hx;clear hx;by_cases he:t.text=x
      ·(have he':(t.text.toList==x.toList)=true:=by rw[cE];exact decide_eq_true he);have HE:=zh he;clear he;go_wp2_with fail;go_ret;exact⟨aD (by rw[HR.out,HAny.out k x HX.out HE.out];rfl),KA.out⟩
      ·(have he':(t.text.toList==x.toList)=false:=by rw[cE];exact decide_eq_false he);have HE:=zh he;clear he;go_wp2_with fail
       go_round
       (case rel=>exact⟨k+1,VG,VT,zh (take_no HX.out (decide_eq_false HE.out) HP.out)⟩);case measure=>simp[intOf];omega
     ·have hk7:k=7:=VG;subst hk7;have E7:=zh (HNone.out (fun x hx=>HP.out x (by rw[List.take_of_length_le (by rw[hlen.out];decide)];exact hx)));have hT:=HT.out;generalize cT t.text=bv at HBt HR;by_cases hbv:bv=0
      ·(have hbv':(bv != 0)=false:=by rw[hbv];rfl);go_wp2_with(first|(go_at_call 191;refine(HBt.out W2 BK.out).mono ?_;rintro e w3 ⟨rfl,rD⟩;have HA3:=zh (BK.out.later rD);have hT3:=aC rD hT)|(go_at_call 147;refine(HM.out w3 HA3.out).mono ?_;rintro e w4 ⟨rfl,rfl⟩));go_ret;exact⟨aD (by rw[HR.out,E7.out,decide_eq_false (by simpa using hbv)];rfl),aB KA.out rD⟩
      ·(have hbv':(bv != 0)=true:=by rw[bne_iff_ne];exact hbv);go_wp2_with(go_at_call 191;refine(HBt.out W2 BK.out).mono ?_;rintro e w3 ⟨rfl,rD⟩);go_ret;exact⟨aD (by rw[HR.out,E7.out,decide_eq_true (by simpa using hbv)];rfl),aB KA.out rD⟩
end Go.Proofs.YtacgopankhpnbaaGreatDoor
