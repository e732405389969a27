/- Texts of this seat, joined. -/
import Derived.Test.YtacgopankhpnbaaGreatDoorSS
set_option maxHeartbeats 8000000
set_option maxRecDepth 100000
set_option linter.unusedVariables false
set_option linter.unusedSimpArgs false
namespace Go.Proofs.YtacgopankhpnbaaGreatDoor
open Go.RowKit
theorem SP{p:Prop}(h:p:=by
 go_loopw [9,35] (fun v i wr=>∃k:Nat,k<=L.length/\i=.int .i64 k/\Hid (Gath W (inTo st k) v wr)) (fun _ i _=>L.length-(intOf i).toNat)
 case atStart=>exact⟨0,Nat.zero_le _,rfl,zh (Gath.first W)⟩
 case round=>
  obtain⟨k,hk,rfl,HA⟩:=hrel;rename World=>wr
  rename Value=>vo
  by_cases pT:k<L.length
  ·have QL:=HA.out.below;have d0:=box1 (aF QL AQ.out.box);have NR:=(AQ.out.map.is.later QL).look (i:=k) VG;have xC:=inTo_len st k;have IV:W.heap.size<=wr.heap.size:=QL.size;have xN:=zh (fun h=>inTo_yes (st:=st) (k:=k) h);have F8:=zh (fun h=>inTo_no (st:=st) (k:=k) h)
   cases hq:st k with
   |false=>
    rw[hq] at NR
    replace F8:=zh (F8.out hq)
    clear hq xN;go_wp2_with fail;go_roundw;(case rel=>exact⟨k+1,VG,VT,zh (by rw[F8.out];exact HA.out)⟩);case measure=>simp[intOf];omega
   |true=>
    rw[hq] at NR
    replace xN:=zh (xN.out hq)
    clear hq F8;go_wp2_with(at_builtin;refine wpList_append_own _ rfl _ _ 26 rfl W.heap.size 3 i0 (.int .i64 0) 1 8 Tryz.underlying26 tF rS qI qH rfl VI _ _ _ rfl (HA.out.own.alloc _) ⟨wr.heap.size,0,none⟩ 1 1 [.int .i64 k] rfl rfl (cell_one_new _ _ _) VX VR VG VZ ?_);intro v' w4 pP pO _;have sV:=zh (HA.out.added XN pO);clear pP pO;go_wp2_with fail;go_roundw;(case rel=>exact⟨k+1,VG,VT,zh (by rw[xN.out];exact sV.out)⟩);case measure=>simp[intOf];omega
  ·obtain rfl:k=L.length:=VG;go_wp2_with fail;go_ret;have HPo:=HA.out.post sA.out;rw[<-yJ.out] at HPo
   exact HPo):p:=h
def inTo(st:Nat->Bool)(k:Nat):List Nat:=(List.range k).filter st
theorem inTo_yes{st:Nat->Bool}{k:Nat}(h:st k=true):inTo st (k+1)=inTo st k++[k]:=by
 unfold inTo;rw[List.range_succ,List.filter_append];simp[h]
theorem inTo_no{st:Nat->Bool}{k:Nat}(h:st k=false):inTo st (k+1)=inTo st k:=by
 unfold inTo;rw[List.range_succ,List.filter_append];simp[h]
theorem inTo_len(st:Nat->Bool)(k:Nat):(inTo st k).length<=k:=by
 unfold inTo;have:=List.length_filter_le st (List.range k);simpa using this
abbrev sliceFn(pi pg pv:Nat):Value:=.func (.func 66) #[] #[.pointer (some ⟨pi,0,none⟩),.pointer (some ⟨pg,0,none⟩),.pointer (some ⟨pv,0,none⟩)]
abbrev sliceWorld(wg:World)(pg:Nat):World:=((wg.alloc (.map #[] 0)).alloc (.cells #[.map (some wg.heap.size)] 104)).alloc (.cells #[sliceFn (wg.heap.size+1) pg (wg.heap.size+1+1)] 107)
theorem Sl.first{r:Rcp}{L:List (Value×Stp)}{vi vs:Value}{bw bi pg:Nat}{wg:World}(h:Grf r L vi vs bw bi wg)(hg:wg.heap[pg]? =some (bR vi vs r.output bw bi)):
  Sl r L vi vs bw bi wg.heap.size (wg.heap.size+1) pg (wg.heap.size+1+1) (sliceWorld wg pg) (fun _=>false):=by
 have B1:=aA wg (.map #[] 0);have B2:=aA (wg.alloc (.map #[] 0)) (.cells #[.map (some wg.heap.size)] 104);have B3:=aA ((wg.alloc (.map #[] 0)).alloc (.cells #[.map (some wg.heap.size)] 104)) (.cells #[sliceFn (wg.heap.size+1) pg (wg.heap.size+1+1)] 107);have QH:bw<wg.heap.size:=by obtain⟨nw,hw⟩:=h.wr;exact hw.lt
 refine⟨?_,aF (aB (aB B1 B2) B3) hg,?_,h.later (aB (aB B1 B2) B3),VG,(hZ.first wg L.length (by have:=h.few;omega)).later (aB B2 B3)⟩
 ·have:=aF B3 (aN (wg.alloc (.map #[] 0)) (.cells #[.map (some wg.heap.size)] 104));exact TU
 ·have:=aN ((wg.alloc (.map #[] 0)).alloc (.cells #[.map (some wg.heap.size)] 104)) (.cells #[sliceFn (wg.heap.size+1) pg (wg.heap.size+1+1)] 107);exact TU
theorem slice_good(r:Rcp)(L:List (Value×Stp))(vi vs:Value)(w:World)(h:eL r L vi vs w)(he:aU r=0):
  Calls Tryz.prog 30 #[lY vi vs r.output] w (fK (bW r) w):=by
 have HI:=zh (h.later (aA w (bK vi vs r.output))).inspect;have HE:=zh (show bW r=inTo (iH r) L.length by unfold bW mZ inTo;rw[if_neg (by simp[he]),h.len]);rw[HE.out];have HR:=zh (lU he);have uQ:=zh h;have hlen:=h.len;have yA:L.length<=60:=by have:=HR.out.few;omega
 have JG:=zh (show ∀y,y∈L->y.2.src.length<=1000000 from fun y hy=>by
  have:=HR.out.steps y.2 XV;have:=(dS this).2.2.1
  omega)
 have HOut:=zh h.out;obtain⟨i0,tF,rS,qI,qH⟩:=info_parts intInfo;have vZ:=@run_makeMap Tryz.prog;have eg:=enters_slice1;obtain⟨ai,ci,av,cv,rfl,rfl⟩:=h.slices;have H0:=zh he;have sD:=zh hlen;clear h he hlen HE;go_enter Tryz.func30,Tryz.ntmps30;go_wp2_with fail;refine HI.out.mono ?_;rintro e w2 ⟨rfl,hb,hm⟩;obtain⟨nw,ni,NM,-⟩:=hm H0.out;have B4:=aA w2 (bR (.slice ai r.inputs.length ci) (.slice av L.length cv) r.output (w.heap.size+1+1+1) (w.heap.size+1+1+1+1));have HB:=zh (aB (aB (aA w _) hb) B4)
 have M0:=zh (show aW eI vInt (w2.alloc (bR (.slice ai r.inputs.length ci) (.slice av L.length cv) r.output (w.heap.size+1+1+1) (w.heap.size+1+1+1+1))) (w.heap.size+1+1+1) nw (kD r.steps) by
  have:=NM.later B4;simpa only[World.size_alloc] using this)
 have HG:=zh (show Grf r L (.slice ai r.inputs.length ci) (.slice av L.length cv) (w.heap.size+1+1+1) (w.heap.size+1+1+1+1) (w2.alloc (bR (.slice ai r.inputs.length ci) (.slice av L.length cv) r.output (w.heap.size+1+1+1) (w.heap.size+1+1+1+1))) from
  ⟨uQ.out.later HB.out,⟨nw,M0.out⟩,yA,JG.out⟩)
 have wL:=zh (aF (aB hb B4) (aN w (bK (.slice ai r.inputs.length ci) (.slice av L.length cv) r.output)));have AQ:=zh (Sl.first (pg:=w2.heap.size) HG.out (aN w2 _));have qX:(w2.alloc (bR (.slice ai r.inputs.length ci) (.slice av L.length cv) r.output (w.heap.size+1+1+1) (w.heap.size+1+1+1+1))).heap.size=w2.heap.size+1:=World.size_alloc _ _;have qQ:=aA (w2.alloc (bR (.slice ai r.inputs.length ci) (.slice av L.length cv) r.output (w.heap.size+1+1+1) (w.heap.size+1+1+1+1))) (.map #[] 0);have SA:=zh (aB (aB qQ (aA _ (.cells #[.map (some (w2.heap.size+1))] 104))) (aA _ (.cells #[sliceFn (w2.heap.size+1+1) w2.heap.size (w2.heap.size+1+1+1)] 107)));simp only[sliceWorld,World.size_alloc] at AQ;rw[H0.out];have NR:=(M0.out.later SA.out).look2 Tryz.underlying98 (x:=r.output) (Nat.le_trans HOut.out kF);have FO:(Instr.lookup 98 (.map (some (w.heap.size+1+1+1))) (.string r.output) true).run Tryz.prog _=.ok (.tuple #[.int .i64 ((kD r.steps r.output).getD 0),.bool (kD r.steps r.output).isSome]) _:=NR;obtain⟨r0,r1,r2⟩:=fF (aF SA.out wL.out);have s0:=box1 AQ.out.box;have s1:=box1 AQ.out.fn;have RC:=zh (fun i(hi:i<L.length)=>slice1_any r L _ _ _ _ _ _ _ _ sD.out (r.steps.length+1) _ _ i AQ.out hi (by rw[mS];have:=sD.out;omega));have sA:=zh (aB HB.out SA.out);have hbm:=SA.out.size;rw[qX] at hbm;have HSz2:Hid (w.heap.size<=w2.heap.size+1):=zh (by have:=HB.out.size;rw[qX] at this;exact this);clear hb hm NM HI B4 qQ NR qX;have DK:=zh (aF SA.out wL.out)
 cases hw:bF r.steps r.output with
 |none=>
  have yJ:=zh (show iH r=fun _=>false by unfold iH;rw[hw]);have e1:kD r.steps r.output=none:=by unfold kD;rw[hw];rfl
  rw[e1] at FO;simp only[Option.getD_none,Option.isSome_none] at FO;clear e1 hw RC;go_wp2_with fail;clear FO;generalize (fun _:Nat=>false)=st at AQ yJ;clear r0 r2 s0 s1 M0 HG wL HB SA hbm;generalize (((w2.alloc (bR (.slice ai r.inputs.length ci) (.slice av L.length cv) r.output (w.heap.size+1+1+1) (w.heap.size+1+1+1+1))).alloc (.map #[] 0)).alloc (.cells #[.map (some (w2.heap.size+1))] 104)).alloc (.cells #[sliceFn (w2.heap.size+1+1) w2.heap.size (w2.heap.size+1+1+1)] 107)=W at AQ sA DK r1 ⊢;exact SP
 |some i=>
  have yJ:=zh (show iH r=grow (aY r.steps) (r.steps.length+1) (fun _=>false) i by unfold iH;rw[hw]);have e1:kD r.steps r.output=some (i:Int):=by unfold kD;rw[hw];rfl
  have hi:i<L.length:=by rw[<-sD.out];exact int_wf hw
  rw[e1] at FO;simp only[Option.getD_some,Option.isSome_some] at FO;clear e1 hw;go_wp2_with fail;refine(RC.out i hi).mono ?_;rintro e W ⟨rfl,h3,pY⟩;have HRs3:=zh (AQ.out.map.isMap.box pY DK.out);have r1':=(fF HRs3.out).2.1;have HBw3:=zh (pY.below sA.out HSz2.out sA.out.size);have ML:=zh h3;clear h3 pY FO r0 r1 r2 s0 s1 M0 HG wL HB SA hbm AQ sA DK hi RC;have AQ:=ML;have sA:=HBw3;clear ML HBw3;go_wp2_with fail;generalize grow (aY r.steps) (r.steps.length+1) (fun _=>false) i=st at AQ yJ;exact SP
theorem slice_any(r:Rcp)(L:List (Value×Stp))(vi vs:Value)(w:World)(h:eL r L vi vs w):Calls Tryz.prog 30 #[lY vi vs r.output] w (fK (bW r) w):=by
 by_cases he:aU r=0
 ·exact slice_good r L vi vs w h he
 ·refine(slice_bad r L vi vs w h he).mono ?_;rintro e w' ⟨rfl,hb⟩;rw[show bW r=[] by unfold bW;rw[if_pos he]];exact⟨_,rfl,⟨none,0,rfl,VL,VL,fun h=>absurd rfl h⟩,fun a n c e=>by(cases e),hb⟩
theorem order_any(r:Rcp)(L:List (Value×Stp))(vi vs:Value)(w:World)(h:eL r L vi vs w):Calls Tryz.prog 33 #[lY vi vs r.output] w (fK (orderL r) w):=by
 by_cases he:aU r=0
 ·exact order_good r L vi vs w h he
 ·refine(order_bad r L vi vs w h he).mono ?_;rintro e w' ⟨rfl,hb⟩;rw[show orderL r=[] by unfold orderL;rw[if_pos he]];exact⟨_,rfl,⟨none,0,rfl,VL,VL,fun h=>absurd rfl h⟩,fun a n c e=>by(cases e),hb⟩
structure Off (S:Nat->Prop) (w w':World):Prop where
 os:w'.os=w.os
 tape:w'.tape=w.tape
 output:w'.output=w.output
 size:w.heap.size<=w'.heap.size
 block:∀k,k<w.heap.size->¬S k->w'.heap[k]? =w.heap[k]?
theorem Off.refl(S:Nat->Prop)(w:World):Off S w w:=⟨rfl,rfl,rfl,Nat.le_refl _,fun _ _ _=>rfl⟩
theorem Off.trans{S:Nat->Prop}{u v w:World}(h:Off S u v)(k:Off S v w):Off S u w:=
 ⟨k.os.trans h.os,k.tape.trans h.tape,k.output.trans h.output,Nat.le_trans h.size k.size,fun i hi pQ=>(k.block i (Nat.lt_of_lt_of_le hi h.size) pQ).trans (h.block i hi pQ)⟩
theorem Off.of_below{S:Nat->Prop}{w w':World}(h:Below w.heap.size w w'):Off S w w':=⟨h.os,h.tape,h.output,h.size,fun k hk _=>h.block k hk⟩
theorem Off.of_only{S:Nat->Prop}{b:Nat}{w w':World}(h:bL b w w')(hb:S b):Off S w w':=⟨h.os,h.tape,h.output,h.size,fun k hk hn=>h.block k hk (fun e=>hn (e▸hb))⟩
theorem Off.below{S:Nat->Prop}{u w w':World}{B:Nat}(h:Below B u w)(k:Off S w w')(hb:∀k,S k->B<=k)(hB:B<=w.heap.size):Below B u w':=
 ⟨k.os.trans h.os,k.tape.trans h.tape,k.output.trans h.output,Nat.le_trans h.size k.size,fun i hi=>(k.block i VG (fun hs=>by have:=hb i hs;omega)).trans (h.block i hi)⟩
theorem Off.cell{S:Nat->Prop}{w w':World}(h:Off S w w'){k o:Nat}{v:Value}(hn:¬S k)(hc:w.cell? ⟨k,o,none⟩=some v):w'.cell? ⟨k,o,none⟩=some v:=
 (World.cell?_of_block (w:=w) (h.block k (cU hc) hn)).trans hc
theorem Off.heap{S:Nat->Prop}{w w':World}(h:Off S w w'){k:Nat}{o:Obj}(hn:¬S k)(hc:w.heap[k]? =some o):w'.heap[k]? =some o:=
 (h.block k (Array.getElem?_eq_some_iff.1 hc).1 hn).trans hc
theorem Off.setCell{S:Nat->Prop}{b o:Nat}{v:Value}(w:World)(hb:S b):Off S w (w.setCell ⟨b,o,none⟩ v):=Off.of_only (bL.setCell w) hb
theorem Off.drew{S:Nat->Prop}{u w:World}(h:Off S u w):Off S u w.drew:=⟨h.os,h.tape,h.output,h.size,h.block⟩
theorem aO{w:World}{g i:Nat}{cs:Array Value}{t:TypeId}{fr:Nat×Nat}(h:w.heap[g]? =some (.cells cs t fr))(v:Value):(w.setCell ⟨g,i,none⟩ v).heap[g]? =some (.cells (cs.setIfInBounds i v) t fr):=by
 exact UG
def bM(N:Nat->Prop)(w:World)(N':Nat->Prop)(w':World):Prop:=
 ∀b,N b->b<w.heap.size->N' b/\∀o v,w.cell? ⟨b,o,none⟩=some v->w'.cell? ⟨b,o,none⟩=some v
theorem bM.later{N:Nat->Prop}{w w':World}(hb:Below w.heap.size w w'):bM N w N w':=fun _ h _=>⟨h,fun _ _ h=>aC hb h⟩
def eD{α:Type}(enc:(Nat->Prop)->World->α->List Value->Prop):Prop:=∀N w N' w' x cs,bM N w N' w'->enc N w x cs->enc N' w' x cs
def aK{α:Type}(k:Nat)(enc:(Nat->Prop)->World->α->List Value->Prop)(N:Nat->Prop)(w:World)(v:Value)(l:List α):Prop:=
 ∃a c,v=.slice a l.length c/\l.length<=c/\c<=9223372036854775807/\
  (l≠[]->∃b o,a=some ⟨b,o,none⟩/\N b/\∀i x,l[i]? =some x->∃cs,enc N w x cs/\cs.length=k/\∀j u,cs[j]? =some u->w.cell? ⟨b,o+i*k+j,none⟩=some u)
theorem aK.moves{α:Type}{k:Nat}{enc:(Nat->Prop)->World->α->List Value->Prop}(he:eD enc){N N':Nat->Prop}{w w':World}{v:Value}{l:List α}(hm:bM N w N' w')(hk:0<k)
  (h:aK k enc N w v l):aK k enc N' w' v l:=by
 obtain⟨a,c,hv,h1,h2,h3⟩:=h;refine⟨a,c,hv,h1,h2,fun pQ=>?_⟩;obtain⟨b,o,ha,hn,hc⟩:=h3 pQ
 have hb:b<w.heap.size:=by
  cases l with
  |nil=>exact absurd rfl pQ
  |cons x0 l=>
   exact UB
 obtain⟨hn',qZ⟩:=hm b hn hb;refine⟨b,o,ha,hn',fun i x hx=>?_⟩;obtain⟨cs,e,hl,hj⟩:=hc i x hx;exact⟨cs,he _ _ _ _ _ _ hm e,hl,fun j u hu=>qZ _ _ (hj j u hu)⟩
theorem aK.nil{α:Type}(k:Nat)(enc:(Nat->Prop)->World->α->List Value->Prop)(N:Nat->Prop)(w:World):aK k enc N w (.slice none 0 0) []:=⟨none,0,rfl,VL,VL,fun h=>absurd rfl h⟩
theorem aK.cases{α:Type}{k:Nat}{enc:(Nat->Prop)->World->α->List Value->Prop}{N:Nat->Prop}{w:World}{v:Value}{l:List α}(hk:0<k)(h:aK k enc N w v l):
  (l=[]/\∃a c,v=.slice a 0 c)\/(∃b o c,v=.slice (some ⟨b,o,none⟩) l.length c/\0<l.length/\l.length<=c/\c<=9223372036854775807/\b<w.heap.size/\N b/\
   ∀i x,l[i]? =some x->∃cs,enc N w x cs/\cs.length=k/\∀j u,cs[j]? =some u->w.cell? ⟨b,o+i*k+j,none⟩=some u):=by
 obtain⟨a,c,hv,h1,h2,h3⟩:=h
 cases l with
 |nil=>exact .inl ⟨rfl,a,c,hv⟩
 |cons x0 l=>
  obtain⟨b,o,ha,hn,hc⟩:=h3 VL;refine .inr ⟨b,o,c,by rw[hv,ha],VL,h1,h2,?_,hn,hc⟩;exact UB
theorem flatten_at{k:Nat}:∀(css:List (List Value)),(∀c,c∈css->c.length=k)->∀i c j,css[i]? =some c->j<k->css.flatten[i*k+j]? =c[j]?
 |[],_,i,c,j,h,_=>W9
 |d::css,hl,0,c,j,h,hj=>by
  simp at h;subst h;have hd:=hl d VL;rw[List.flatten_cons,Nat.zero_mul,Nat.zero_add,List.getElem?_append_left VG]
 |d::css,hl,i+1,c,j,h,hj=>by
  have hd:=hl d VL;rw[List.flatten_cons,List.getElem?_append_right (by rw[hd,Nat.succ_mul];omega),hd,show(i+1)*k+j-k=i*k+j by rw[Nat.succ_mul];omega];exact flatten_at css (fun c hc=>hl c (by simp[hc])) i c j WI hj
abbrev bD(B:Nat):Nat->Prop:=fun b=>B<=b
abbrev lC(B:Nat)(v:Value):Nat->Prop:=fun b=>B<=b/\v.ownBlock≠some b
structure Gro {α:Type} (k:Nat) (T:TypeId) (enc:(Nat->Prop)->World->α->List Value->Prop) (B:Nat) (l:List α) (css:List (List Value)) (v:Value) (w:World):Prop where
 own:w.ownsRow B T k v l.length css.flatten
 len:css.length=l.length
 ks:∀c,c∈css->c.length=k
 enc:∀(i:Nat)(x:α)(c:List Value),l[i]? =some x->css[i]? =some c->enc (lC B v) w x c
 big:B<=w.heap.size
section
variable {α:Type} {k:Nat} {T:TypeId} {enc:(Nat->Prop)->World->α->List Value->Prop} {B:Nat} {l:List α} {css:List (List Value)} {v:Value} {w w':World}
theorem Gro.first(k:Nat)(T:TypeId)(enc:(Nat->Prop)->World->α->List Value->Prop)(w:World):Gro k T enc w.heap.size [] [] (.slice none 0 0) w:=
 ⟨World.ownsRow_nil _ _ _ _,rfl,fun c h=>YD,fun i x c h=>W9,Nat.le_refl _⟩
theorem Gro.first_at(k:Nat)(T:TypeId)(enc:(Nat->Prop)->World->α->List Value->Prop){w:World}{B:Nat}(h:B<=w.heap.size):Gro k T enc B [] [] (.slice none 0 0) w:=
 ⟨World.ownsRow_nil _ _ _ _,rfl,fun c h=>YD,fun i x c h=>W9,h⟩
def cZ(B:Nat)(w w':World):Prop:=w.heap.size<=w'.heap.size/\∀b cs t fr,B<=b->w.heap[b]? =some (.cells cs t fr)->w'.heap[b]? =some (.cells cs t fr)
theorem cZ.of_below(hb:Below w.heap.size w w'):cZ B w w':=⟨hb.size,fun b _ _ _ _ hc=>(hb.block b (Array.getElem?_eq_some_iff.1 hc).1).trans hc⟩
theorem cZ.of_off{S:Nat->Prop}(ho:Off S w w')(hS:∀b,S b->b<B\/cQ w b):cZ B w w':=⟨ho.size,fun b _ _ _ hB hc=>by
 refine(ho.block b (Array.getElem?_eq_some_iff.1 hc).1 fun hs=>?_).trans hc;rcases hS b hs with h|⟨es,c,h⟩
 ·omega
 ·rw[h] at hc;cases hc⟩
theorem cell_heap{b o:Nat}{u:Value}(h:w.cell? ⟨b,o,none⟩=some u):∃cs t fr,w.heap[b]? =some (.cells cs t fr)/\cs[o]? =some u:=by
 unfold World.cell? at h
 cases hh:w.heap[b]? with
 |none=>simp[hh] at h
 |some ob=>
  cases ob with
  |cells cs t fr=>exact⟨cs,t,fr,rfl,by simpa[hh] using h⟩
  |_=>simp[hh] at h
theorem cZ.cell(h:cZ B w w'){b o:Nat}{u:Value}(hb:B<=b)(hc:w.cell? ⟨b,o,none⟩=some u):w'.cell? ⟨b,o,none⟩=some u:=by
 obtain⟨cs,t,fr,hh,hu⟩:=cell_heap hc;simp[World.cell?,h.2 b cs t fr hb hh,hu]
theorem cZ.moves{N:Nat->Prop}(h:cZ B w w')(hN:∀b,N b->B<=b):bM N w N w':=fun b hb _=>⟨hb,fun _ _ hc=>h.cell (hN b hb) hc⟩
theorem Gro.stays(he:eD enc)(h:Gro k T enc B l css v w)(hs:cZ B w w'):Gro k T enc B l css v w':=by
 refine⟨?_,h.len,h.ks,fun i x c hx hc=>he _ _ _ _ _ _ (hs.moves fun b hb=>hb.1) (h.enc i x c hx hc),Nat.le_trans h.big hs.1⟩;obtain⟨h1,h2⟩:=h.own;refine⟨h1,?_⟩;rcases h2 with h2|⟨g,cap,cur,hv,hg,DW,r⟩
 ·exact .inl h2
 ·exact .inr ⟨g,cap,cur,hv,hg,hs.2 _ _ _ _ hg DW,r⟩
theorem Gro.later(he:eD enc)(h:Gro k T enc B l css v w)(hb:Below w.heap.size w w'):Gro k T enc B l css v w':=h.stays he (.of_below hb)
theorem Gro.added(he:eD enc)(h:Gro k T enc B l css v w){g cap:Nat}{x:α}{news:List Value}(hx:enc (lC B v) w x news)(hk:news.length=k)
  (pP:w'.ownsRow B T k (.slice (some ⟨g,0,none⟩) (l.length+1) cap) (l.length+1) (css.flatten++news)) (pO:w.grownBy w' v.ownBlock) (qA:v.ownBlock=some g\/g=w.heap.size):
  Gro k T enc B (l++[x]) (css++[news]) (.slice (some ⟨g,0,none⟩) (l.length+1) cap) w':=by
 have hm:bM (lC B v) w (lC B (.slice (some ⟨g,0,none⟩) (l.length+1) cap)) w':=fun b hb pT=>by
  refine⟨⟨hb.1,fun e=>?_⟩,fun o u hu=>pO.cell hu (fun e=>hb.2 e.symm)⟩;have e2:g=b:=XS;subst e2;rcases qA with h1|h1
  ·exact hb.2 h1
  ·omega
 refine⟨by rw[List.length_append,List.flatten_append];simpa using pP,by simp[h.len],fun c hc=>?_,fun i y c hy hc=>?_,Nat.le_trans h.big pO.size⟩
 ·rcases List.mem_append.1 hc with h1|h1
  ·exact h.ks c h1
  ·rw[List.mem_singleton.1 h1];exact hk
 ·by_cases hi:i<l.length
  ·rw[List.getElem?_append_left hi] at hy;rw[List.getElem?_append_left (by rw[h.len];exact hi)] at hc;exact he _ _ _ _ _ _ hm (h.enc i y c hy hc)
  ·rw[List.getElem?_append_right VG] at hy;rw[List.getElem?_append_right (by rw[h.len];omega)] at hc
   have tF:i-l.length=0:=by
    rcases Nat.eq_zero_or_pos (i-l.length) with h0|h0
    ·exact h0
    ·rw[List.getElem?_eq_none (by rw[List.length_singleton];omega)] at hy;cases hy
   rw[tF] at hy;rw[h.len,tF] at hc;cases hy;cases hc;exact he _ _ _ _ _ _ hm hx
theorem Gro.row(he:eD enc)(h:Gro k T enc B l css v w):aK k enc (bD B) w v l:=by
 obtain⟨h1,h2⟩:=h.own;rcases h2 with⟨rfl,h0⟩|⟨g,cap,cur,rfl,hg,yO,r1,r2,r3,r4⟩
 ·have:=List.eq_nil_of_length_eq_zero h0;subst this;exact aK.nil _ _ _ _
 ·refine⟨_,cap,rfl,r1,r2,fun _=>⟨g,0,rfl,hg,fun i x hx=>?_⟩⟩;have hi:=(List.getElem?_eq_some_iff.1 hx).1;obtain⟨c,hc⟩:∃c,css[i]? =some c:=⟨_,List.getElem?_eq_getElem (by rw[h.len];exact hi)⟩;have hck:=h.ks c (List.mem_of_getElem? hc);refine⟨c,he _ _ _ _ _ _ (fun b hb _=>⟨hb.1,fun _ _ h=>h⟩) (h.enc i x c hx hc),hck,fun j u hu=>?_⟩;have hj:j<k:=by rw[<-hck];exact(List.getElem?_eq_some_iff.1 hu).1
  have pT:i*k+j<l.length*k:=by
   have:(i+1)*k<=l.length*k:=Nat.mul_le_mul_right _ hi;rw[Nat.succ_mul] at this;omega
  have:=congrArg (fun t:List Value=>t[i*k+j]?) r4;simp only[List.getElem?_take,if_pos pT,flatten_at css h.ks i c j hc hj,hu] at this;have h2:cur[i*k+j]? =some u:=YK;simp[World.cell?,yO,h2]
theorem Gro.lt(h:Gro k T enc B l css v w):∀b,v.ownBlock=some b->B<=b/\b<w.heap.size:=h.own.lt
theorem Gro.val(h:Gro k T enc B l css v w):v=.slice none 0 0/\l=[]\/∃g cap,v=.slice (some ⟨g,0,none⟩) l.length cap/\B<=g/\g<w.heap.size:=by
 rcases h.own.2 with⟨rfl,h0⟩|⟨g,cap,cur,rfl,hg,yO,-⟩
 ·exact .inl ⟨rfl,List.eq_nil_of_length_eq_zero h0⟩
 ·exact .inr ⟨g,cap,rfl,hg,(Array.getElem?_eq_some_iff.1 yO).1⟩
end
def cK(_:Nat->Prop)(_:World)(x:ByteArray)(cs:List Value):Prop:=cs=[.string x]/\x.size<=140737488355328
theorem aQ:eD cK:=fun _ _ _ _ _ _ _ h=>h
theorem aK.strs{N:Nat->Prop}{w:World}{v:Value}{l:List ByteArray}(h:aK 1 cK N w v l):Strs w v l:=by
 obtain⟨a,c,hv,h1,h2,h3⟩:=h;refine⟨a,c,hv,h1,h2,fun pQ=>?_⟩;obtain⟨b,o,ha,-,hc⟩:=h3 pQ;exact⟨b,o,ha,hc⟩
end Go.Proofs.YtacgopankhpnbaaGreatDoor
namespace Go.Proofs.YtacgopankhpnbaaGreatDoor
open Go.RowKit
theorem aK.at{α:Type}{k:Nat}{enc:(Nat->Prop)->World->α->List Value->Prop}{N:Nat->Prop}{w:World}{v:Value}{l:List α}(h:aK k enc N w v l):
  ∃a c,v=.slice a l.length c/\l.length<=c/\c<=9223372036854775807/\∀i x,l[i]? =some x->∃b o,a=some ⟨b,o,none⟩/\N b/\∃cs,enc N w x cs/\cs.length=k/\∀j u,cs[j]? =some u->w.cell? ⟨b,o+i*k+j,none⟩=some u:=by
 obtain⟨a,c,hv,h1,h2,h3⟩:=h;refine⟨a,c,hv,h1,h2,fun i x hx=>?_⟩;obtain⟨b,o,ha,hb,hc⟩:=h3 (fun e=>by rw[e] at hx;simp at hx);exact⟨b,o,ha,hb,hc i x hx⟩
end Go.Proofs.YtacgopankhpnbaaGreatDoor
