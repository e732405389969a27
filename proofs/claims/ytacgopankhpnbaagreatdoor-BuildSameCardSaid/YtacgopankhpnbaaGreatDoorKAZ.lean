/- Texts of this seat, joined. -/
import Derived.Test.YtacgopankhpnbaaGreatDoorKS
namespace Go.Proofs.YtacgopankhpnbaaGreatDoor
set_option maxHeartbeats 4000000
set_option maxRecDepth 100000
open Go.RowKit
theorem also_true{st:Nat->Bool}{i j:Nat}(h:st j=true):kM st i j=true:=by unfold kM;split<;>simp[h]
theorem foldl_true{g:(Nat->Bool)->Nat->(Nat->Bool)}(hg:∀st i j,st j=true->g st i j=true):∀(l:List Nat)(st:Nat->Bool)(j:Nat),st j=true->l.foldl g st j=true
 |[],_,_,h=>h
 |a::l,st,j,h=>foldl_true hg l (g st a) j (hg st a j h)
theorem grow_true(needs:Nat->List Nat):∀(f:Nat)(st:Nat->Bool)(i j:Nat),st j=true->grow needs f st i j=true
 |0,_,_,_,h=>h
 |f+1,st,i,j,h=>by
  rw[grow];split
  ·exact h
  ·exact foldl_true (grow_true needs f) _ _ _ (also_true h)
theorem leftN_mono{a b:Nat->Bool}(h:∀j,a j=true->b j=true):∀n,dR b n<=dR a n
 |0=>Nat.le_refl _
 |n+1=>by
  have:=leftN_mono h n;rw[dR,dR]
  cases ha:a n with
  |true=>rw[h n ha];simp;omega
  |false=>simp only[Bool.false_eq_true,if_false];split<;>omega
theorem foldl_snoc{α:Type}(g:α->Nat->α)(l:List Nat)(st:α){k x:Nat}(hx:l[k]? =some x):(l.take (k+1)).foldl g st=g ((l.take k).foldl g st) x:=by
 rw[List.take_add_one,hx];simp
structure Sl (r:Rcp) (L:List (Value×Stp)) (vi vs:Value) (bw bi bm pi pg pv:Nat) (w:World) (st:Nat->Bool):Prop where
 box:w.heap[pi]? =some (.cells #[.map (some bm)] 104)
 gr:w.heap[pg]? =some (cD vi vs r.output bw bi)
 fn:w.heap[pv]? =some (.cells #[.func (.func 66) #[] #[.pointer (some ⟨pi,0,none⟩),.pointer (some ⟨pg,0,none⟩),.pointer (some ⟨pv,0,none⟩)]] 107)
 grf:Grf r L vi vs bw bi w
 ne:bw≠bm
 map:iS w bm st L.length
section
variable {r:Rcp} {L:List (Value×Stp)} {vi vs:Value} {bw bi bm pi pg pv:Nat} {w w':World} {st:Nat->Bool}
theorem Sl.later(h:Sl r L vi vs bw bi bm pi pg pv w st)(hb:Below w.heap.size w w'):Sl r L vi vs bw bi bm pi pg pv w' st:=
 ⟨aD hb h.box,aD hb h.gr,aD hb h.fn,h.grf.later hb,h.ne,h.map.later hb⟩
theorem Sl.set(h:Sl r L vi vs bw bi bm pi pg pv w st){i:Nat}(hi:i<L.length)(hd:st i=false):
  ∃w',(Instr.mapUpdate 104 (.map (some bm)) (.int .i64 i) (.bool true)).run Tryz.prog w=.ok () w'/\Sl r L vi vs bw bi bm pi pg pv w' (kM st i)/\bU bm w w':=by
 obtain⟨w',h1,h2,h3⟩:=h.map.set hi hd (by have:=h.grf.few;omega);have ho:=iX h3;have hM:=h.map.isMap;exact⟨w',h1,⟨hM.box ho h.box,hM.box ho h.gr,hM.box ho h.fn,h.grf.onlyMap hM ho h.ne,h.ne,h2⟩,ho⟩
def SlPost(r:Rcp)(L:List (Value×Stp))(vi vs:Value)(bw bi bm pi pg pv:Nat)(w:World)(st:Nat->Bool)(e:Ending)(w':World):Prop:=
 e=.returned (.tuple #[])/\Sl r L vi vs bw bi bm pi pg pv w' st/\bU bm w w'
end
theorem enters_slice1:∀args w,(callFunc 66 args).run Tryz.prog w=.ok (.enter 66 args) w:=enters_of Tryz.func66 vU rfl
theorem slice1_any(r:Rcp)(L:List (Value×Stp))(vi vs:Value)(bw bi bm pi pg pv:Nat)(hlen:r.steps.length=L.length):∀(f:Nat)(w:World)(st:Nat->Bool)(i:Nat),Sl r L vi vs bw bi bm pi pg pv w st->i<L.length->dR st L.length<f->
  Calls Tryz.prog 66 #[.int .i64 i,.pointer (some ⟨pi,0,none⟩),.pointer (some ⟨pg,0,none⟩),.pointer (some ⟨pv,0,none⟩)] w (SlPost r L vi vs bw bi bm pi pg pv w (grow (bK r.steps) f st i))
 |0,w,st,i,_,_,h=>absurd h vT
 |f+1,w,st,i,h,hi,hf=>by
  have IH:=zh (slice1_any r L vi vs bw bi bm pi pg pv hlen f);have hl:=h.map.is.look (i:=i) (by have:=h.grf.few;omega);have c0:=box1 h.box;have eg:=enters_slice1
  cases hst:st i with
  |true=>
   have HG:=zh (show grow (bK r.steps) (f+1) st i=st by rw[grow,if_pos hst]);have HS:=zh h;rw[hst] at hl;clear h hst IH hf;go_enter Tryz.func66,Tryz.ntmps66;go_wp2_with fail;go_end0;exact⟨rfl,by rw[HG.out];exact HS.out,bU.refl _ _⟩
  |false=>
   have HG:=zh (show grow (bK r.steps) (f+1) st i=(bK r.steps i).foldl (grow (bK r.steps) f) (kM st i) by rw[grow,if_neg (by simp[hst])]);obtain⟨w1,hrun,h1,ho1⟩:=h.set hi hst;have hz:=gM hst L.length hi;have hz1:dR (kM st i) L.length<f:=vT;have HZ:=zh hz1;have HS1:=zh h1;have HO1:=zh ho1;have HN:=zh (h1.grf.needs hi);obtain⟨g0,g1,g2,g3,g4⟩:=box5 h1.gr;rw[hst] at hl;rw[HG.out];have HLt:=zh (fun j(hj:j∈bK r.steps i)=>show j<L.length by rw[<-hlen];exact oO hj);generalize bK r.steps i=l at HN HLt ⊢;have HNd:=zh hlen;clear h hst hz hz1 h1 ho1 hlen hf HG;go_enter Tryz.func66,Tryz.ntmps66;go_wp2_with fail;refine HN.out.mono ?_;rintro e w2 ⟨v,rfl,hI,-,hb⟩;have HS2:=zh (HS1.out.later hb);have HO2:=zh (HO1.out.trans (bU.of_below hb));have HI:=zh hI
   obtain⟨a,c,hv⟩:∃a c,v=.slice a l.length c:=by
    obtain⟨a,c,hv,-⟩:=hI;exact⟨a,c,by rw[hv];simp⟩
   have hll:l.length<=9223372036854775807:=by
    obtain⟨a,c,hv,h1,h2,-⟩:=hI;simp at h1;omega
   subst hv;clear hI hb g0 g1 g2 g3 g4 c0 hl hrun HS1;go_wp2_with fail;(go_loopw [17] (fun idx wr=>∃k:Nat,k<=l.length/\idx=.int .i64 k/\Hid (Sl r L vi vs bw bi bm pi pg pv wr ((l.take k).foldl (grow (bK r.steps) f) (kM st i)))/\Hid (bU bm w2 wr)) (fun idx _=>l.length-(intOf idx).toNat));case atStart=>exact⟨0,Nat.zero_le _,rfl,HS2,zh (bU.refl _ _)⟩
   case round=>
    obtain⟨k,hk,rfl,HS,HO⟩:=hrel;(rename World=>wr);by_cases hlt:k<l.length
    ·obtain⟨x,hx,hxm⟩:=getElem?_of_lt hlt;rcases(HI.out.onlyMap HS2.out.map.isMap HO.out).cases with⟨e,-⟩|⟨b,o,cc,e,-,-,-,-,hc⟩
     ·rw[bI,List.map_eq_nil_iff] at e;subst e;simp at hlt
     obtain⟨rfl,rfl⟩:a=some ⟨b,o,none⟩/\c=cc:=xM;have cx:wr.cell? ⟨b,o+k,none⟩=some (.int .i64 x):=hc k x (by simp[bI,hx]);have cv:=box1 HS.out.fn;have hlx:dR ((l.take k).foldl (grow (bK r.steps) f) (kM st i)) L.length<f:=Nat.lt_of_le_of_lt (leftN_mono (fun j hj=>foldl_true (grow_true _ _) _ _ _ hj) _) HZ.out;have HC:=zh (IH.out wr _ x HS.out (HLt.out x hxm) hlx);have HSn:=zh (foldl_snoc (grow (bK r.steps) f) l (kM st i) hx);rw[<-HSn.out] at HC;clear hc e hx hxm hlx;go_wp2_with(go_at_fn 66;(with_reducible refine HC.out.mono ?_);rintro e w3 ⟨rfl,h3,ho3⟩);go_roundw;(case rel=>exact⟨k+1,vT,wH,zh h3,zh (HO.out.trans ho3)⟩);case measure=>simp[intOf];omega
    ·obtain rfl:k=l.length:=vT;rw[List.take_length] at HS;go_wp2_with fail;go_end0;exact⟨rfl,HS.out,HO2.out.trans HO.out⟩
end Go.Proofs.YtacgopankhpnbaaGreatDoor
namespace Go.Proofs.YtacgopankhpnbaaGreatDoor
set_option maxHeartbeats 8000000
set_option maxRecDepth 100000
open Go.RowKit
theorem rO{p:Prop}(h:p:=by
 go_loopw [9,35] (fun v i wr=>∃k:Nat,k<=L.length/\i=.int .i64 k/\Hid (Gath W (inTo st k) v wr)) (fun _ i _=>L.length-(intOf i).toNat)
 case atStart=>exact⟨0,Nat.zero_le _,rfl,zh (Gath.first W)⟩
 case round=>
  obtain⟨k,hk,rfl,HA⟩:=hrel;rename World=>wr
  rename Value=>vo
  by_cases hlt:k<L.length
  ·have hbA:=HA.out.below;have d0:=box1 (aD hbA HSl.out.box);have hlk:=(HSl.out.map.is.later hbA).look (i:=k) vT;have hin:=inTo_len st k;have hbz:W.heap.size<=wr.heap.size:=hbA.size;have HNy:=zh (fun h=>inTo_yes (st:=st) (k:=k) h);have HNn:=zh (fun h=>inTo_no (st:=st) (k:=k) h)
   cases hq:st k with
   |false=>
    rw[hq] at hlk
    replace HNn:=zh (HNn.out hq)
    clear hq HNy;go_wp2_with fail;go_roundw;(case rel=>exact⟨k+1,vT,wH,zh (by rw[HNn.out];exact HA.out)⟩);case measure=>simp[intOf];omega
   |true=>
    rw[hq] at hlk
    replace HNy:=zh (HNy.out hq)
    clear hq HNn;go_wp2_with(at_builtin;refine wpList_append_own _ rfl _ _ 26 rfl W.heap.size 3 i0 (.int .i64 0) 1 8 Tryz.underlying26 hi0 hz0 hz1 hz2 rfl vV _ _ _ rfl (HA.out.own.alloc _) ⟨wr.heap.size,0,none⟩ 1 1 [.int .i64 k] rfl rfl (cell_one_new _ _ _) wN wK vT wQ ?_);intro v' w4 hown hgrow _;have HNew:=zh (HA.out.added yP hgrow);clear hown hgrow;go_wp2_with fail;go_roundw;(case rel=>exact⟨k+1,vT,wH,zh (by rw[HNy.out];exact HNew.out)⟩);case measure=>simp[intOf];omega
  ·obtain rfl:k=L.length:=vT;go_wp2_with fail;go_ret;have HPo:=HA.out.post HBw.out;rw[<-HIn.out] at HPo
   exact HPo):p:=h
def inTo(st:Nat->Bool)(k:Nat):List Nat:=(List.range k).filter st
theorem inTo_yes{st:Nat->Bool}{k:Nat}(h:st k=true):inTo st (k+1)=inTo st k++[k]:=by
 unfold inTo;rw[List.range_succ,List.filter_append];simp[h]
theorem inTo_no{st:Nat->Bool}{k:Nat}(h:st k=false):inTo st (k+1)=inTo st k:=by
 unfold inTo;rw[List.range_succ,List.filter_append];simp[h]
theorem inTo_len(st:Nat->Bool)(k:Nat):(inTo st k).length<=k:=by
 unfold inTo;have:=List.length_filter_le st (List.range k);simpa using this
abbrev sliceFn(pi pg pv:Nat):Value:=.func (.func 66) #[] #[.pointer (some ⟨pi,0,none⟩),.pointer (some ⟨pg,0,none⟩),.pointer (some ⟨pv,0,none⟩)]
abbrev sliceWorld(wg:World)(pg:Nat):World:=((wg.alloc (.map #[] 0)).alloc (.cells #[.map (some wg.heap.size)] 104)).alloc (.cells #[sliceFn (wg.heap.size+1) pg (wg.heap.size+1+1)] 107)
theorem Sl.first{r:Rcp}{L:List (Value×Stp)}{vi vs:Value}{bw bi pg:Nat}{wg:World}(h:Grf r L vi vs bw bi wg)(hg:wg.heap[pg]? =some (cD vi vs r.output bw bi)):
  Sl r L vi vs bw bi wg.heap.size (wg.heap.size+1) pg (wg.heap.size+1+1) (sliceWorld wg pg) (fun _=>false):=by
 have B1:=aA wg (.map #[] 0);have B2:=aA (wg.alloc (.map #[] 0)) (.cells #[.map (some wg.heap.size)] 104);have B3:=aA ((wg.alloc (.map #[] 0)).alloc (.cells #[.map (some wg.heap.size)] 104)) (.cells #[sliceFn (wg.heap.size+1) pg (wg.heap.size+1+1)] 107);have hbw:bw<wg.heap.size:=by obtain⟨nw,hw⟩:=h.wr;exact hw.lt
 refine⟨?_,aD (aB (aB B1 B2) B3) hg,?_,h.later (aB (aB B1 B2) B3),vT,(iS.first wg L.length (by have:=h.few;omega)).later (aB B2 B3)⟩
 ·have:=aD B3 (aN (wg.alloc (.map #[] 0)) (.cells #[.map (some wg.heap.size)] 104));simpa only[World.size_alloc] using this
 ·have:=aN ((wg.alloc (.map #[] 0)).alloc (.cells #[.map (some wg.heap.size)] 104)) (.cells #[sliceFn (wg.heap.size+1) pg (wg.heap.size+1+1)] 107);simpa only[World.size_alloc] using this
theorem slice_good(r:Rcp)(L:List (Value×Stp))(vi vs:Value)(w:World)(h:fZ r L vi vs w)(he:bC r=0):
  Calls Tryz.prog 30 #[nD vi vs r.output] w (gG (eG r) w):=by
 have HI:=zh (h.later (aA w (dG vi vs r.output))).inspect;have HE:=zh (show eG r=inTo (jN r) L.length by unfold eG oE inTo;rw[if_neg (by simp[he]),h.len]);rw[HE.out];have HR:=zh (mY he);have HRcp:=zh h;have hlen:=h.len;have hL60:L.length<=60:=by have:=HR.out.few;omega
 have HSrc:=zh (show ∀y,y∈L->y.2.src.length<=1000000 from fun y hy=>by
  have:=HR.out.steps y.2 zS;have:=(dS this).2.2.1
  omega)
 have HOut:=zh h.out;obtain⟨i0,hi0,hz0,hz1,hz2⟩:=info_parts intInfo;have hmm:=@run_makeMap Tryz.prog;have eg:=enters_slice1;obtain⟨ai,ci,av,cv,rfl,rfl⟩:=h.slices;have H0:=zh he;have HLen:=zh hlen;clear h he hlen HE;go_enter Tryz.func30,Tryz.ntmps30;go_wp2_with fail;refine HI.out.mono ?_;rintro e w2 ⟨rfl,hb,hm⟩;obtain⟨nw,ni,hmw,-⟩:=hm H0.out;have B4:=aA w2 (cD (.slice ai r.inputs.length ci) (.slice av L.length cv) r.output (w.heap.size+1+1+1) (w.heap.size+1+1+1+1));have HB:=zh (aB (aB (aA w _) hb) B4)
 have HMW:=zh (show bD eZ vInt (w2.alloc (cD (.slice ai r.inputs.length ci) (.slice av L.length cv) r.output (w.heap.size+1+1+1) (w.heap.size+1+1+1+1))) (w.heap.size+1+1+1) nw (kZ r.steps) by
  have:=hmw.later B4;simpa only[World.size_alloc] using this)
 have HG:=zh (show Grf r L (.slice ai r.inputs.length ci) (.slice av L.length cv) (w.heap.size+1+1+1) (w.heap.size+1+1+1+1) (w2.alloc (cD (.slice ai r.inputs.length ci) (.slice av L.length cv) r.output (w.heap.size+1+1+1) (w.heap.size+1+1+1+1))) from
  ⟨HRcp.out.later HB.out,⟨nw,HMW.out⟩,hL60,HSrc.out⟩)
 have HRb:=zh (aD (aB hb B4) (aN w (dG (.slice ai r.inputs.length ci) (.slice av L.length cv) r.output)));have HSl:=zh (Sl.first (pg:=w2.heap.size) HG.out (aN w2 _));have hsz:(w2.alloc (cD (.slice ai r.inputs.length ci) (.slice av L.length cv) r.output (w.heap.size+1+1+1) (w.heap.size+1+1+1+1))).heap.size=w2.heap.size+1:=World.size_alloc _ _;have HB1:=aA (w2.alloc (cD (.slice ai r.inputs.length ci) (.slice av L.length cv) r.output (w.heap.size+1+1+1) (w.heap.size+1+1+1+1))) (.map #[] 0);have HBs:=zh (aB (aB HB1 (aA _ (.cells #[.map (some (w2.heap.size+1))] 104))) (aA _ (.cells #[sliceFn (w2.heap.size+1+1) w2.heap.size (w2.heap.size+1+1+1)] 107)));simp only[sliceWorld,World.size_alloc] at HSl;rw[H0.out];have hlk:=(HMW.out.later HBs.out).look2 Tryz.underlying98 (x:=r.output) (Nat.le_trans HOut.out lB);have hlk':(Instr.lookup 98 (.map (some (w.heap.size+1+1+1))) (.string r.output) true).run Tryz.prog _=.ok (.tuple #[.int .i64 ((kZ r.steps r.output).getD 0),.bool (kZ r.steps r.output).isSome]) _:=hlk;obtain⟨r0,r1,r2⟩:=gY (aD HBs.out HRb.out);have s0:=box1 HSl.out.box;have s1:=box1 HSl.out.fn;have HVis:=zh (fun i(hi:i<L.length)=>slice1_any r L _ _ _ _ _ _ _ _ HLen.out (r.steps.length+1) _ _ i HSl.out hi (by rw[nU];have:=HLen.out;omega));have HBw:=zh (aB HB.out HBs.out);have hbm:=HBs.out.size;rw[hsz] at hbm;have HSz2:Hid (w.heap.size<=w2.heap.size+1):=zh (by have:=HB.out.size;rw[hsz] at this;exact this);clear hb hm hmw HI B4 HB1 hlk hsz;have HRs:=zh (aD HBs.out HRb.out)
 cases hw:bR r.steps r.output with
 |none=>
  have HIn:=zh (show jN r=fun _=>false by unfold jN;rw[hw]);have e1:kZ r.steps r.output=none:=by unfold kZ;rw[hw];rfl
  rw[e1] at hlk';simp only[Option.getD_none,Option.isSome_none] at hlk';clear e1 hw HVis;go_wp2_with fail;clear hlk';generalize (fun _:Nat=>false)=st at HSl HIn;clear r0 r2 s0 s1 HMW HG HRb HB HBs hbm;generalize (((w2.alloc (cD (.slice ai r.inputs.length ci) (.slice av L.length cv) r.output (w.heap.size+1+1+1) (w.heap.size+1+1+1+1))).alloc (.map #[] 0)).alloc (.cells #[.map (some (w2.heap.size+1))] 104)).alloc (.cells #[sliceFn (w2.heap.size+1+1) w2.heap.size (w2.heap.size+1+1+1)] 107)=W at HSl HBw HRs r1 ⊢;exact rO
 |some i=>
  have HIn:=zh (show jN r=grow (bK r.steps) (r.steps.length+1) (fun _=>false) i by unfold jN;rw[hw]);have e1:kZ r.steps r.output=some (i:Int):=by unfold kZ;rw[hw];rfl
  have hi:i<L.length:=by rw[<-HLen.out];exact int_wf hw
  rw[e1] at hlk';simp only[Option.getD_some,Option.isSome_some] at hlk';clear e1 hw;go_wp2_with fail;refine(HVis.out i hi).mono ?_;rintro e W ⟨rfl,h3,ho3⟩;have HRs3:=zh (HSl.out.map.isMap.box ho3 HRs.out);have r1':=(gY HRs3.out).2.1;have HBw3:=zh (ho3.below HBw.out HSz2.out HBw.out.size);have HSl3:=zh h3;clear h3 ho3 hlk' r0 r1 r2 s0 s1 HMW HG HRb HB HBs hbm HSl HBw HRs hi HVis;have HSl:=HSl3;have HBw:=HBw3;clear HSl3 HBw3;go_wp2_with fail;generalize grow (bK r.steps) (r.steps.length+1) (fun _=>false) i=st at HSl HIn;exact rO
theorem qC(r:Rcp)(L:List (Value×Stp))(vi vs:Value)(w:World)(h:fZ r L vi vs w):Calls Tryz.prog 30 #[nD vi vs r.output] w (gG (eG r) w):=by
 by_cases he:bC r=0
 ·exact slice_good r L vi vs w h he
 ·refine(slice_bad r L vi vs w h he).mono ?_;rintro e w' ⟨rfl,hb⟩;rw[show eG r=[] by unfold eG;rw[if_pos he]];exact⟨_,rfl,⟨none,0,rfl,vZ,vZ,fun h=>absurd rfl h⟩,fun a n c e=>by(cases e),hb⟩
theorem order_any(r:Rcp)(L:List (Value×Stp))(vi vs:Value)(w:World)(h:fZ r L vi vs w):Calls Tryz.prog 33 #[nD vi vs r.output] w (gG (iW r) w):=by
 by_cases he:bC r=0
 ·exact order_good r L vi vs w h he
 ·refine(order_bad r L vi vs w h he).mono ?_;rintro e w' ⟨rfl,hb⟩;rw[show iW r=[] by unfold iW;rw[if_pos he]];exact⟨_,rfl,⟨none,0,rfl,vZ,vZ,fun h=>absurd rfl h⟩,fun a n c e=>by(cases e),hb⟩
end Go.Proofs.YtacgopankhpnbaaGreatDoor
