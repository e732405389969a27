/- Texts of this seat, joined. -/
import Derived.Test.YtiionicikdnnpaaGreatDoorCN
import Derived.RangeFuncNested
import Derived.RangeFuncBound
set_option maxHeartbeats 2000000
set_option maxRecDepth 100000
set_option linter.unusedVariables false
set_option linter.unusedSimpArgs false
namespace Go.Proofs.YtiionicikdnnpaaGreatDoor
open Go.RowKit Go.Shelf
theorem YG{p:Prop}(h:p:=by
 go_wp2_with fail;go_ret
 exact⟨rfl,rfl⟩):p:=h
attribute [local go_sem] Oper.semAt_some
theorem values1_in(n:Nat)(hn:1<=n)(l Bs n₀ b off cap:Nat)(zs:List bA)(hreach:zs.length<=9223372036854775807)(hb:b<n₀)(J Jx:List bA->World->Prop)
  (hY:∀pre x W,J pre W->pre.length<zs.length->YieldAt Fence.wide (n-1) Tryz.prog l #[.string x] W fun e W'=>
   (e=.returned (.bool true)/\J (pre++[x]) W'/\Below n₀ W W')\/(e=.returned (.bool false)/\Jx (pre++[x]) W'))
  (W:World) (NP:W.cell? ⟨Bs,0,none⟩=some (.slice (some ⟨b,off,none⟩) zs.length cap)) (hc:∀j x,zs[j]? =some x->W.cell? ⟨b,off+j,none⟩=some (.string x)) (h0:J [] W):
  CallsIn Fence.wide n Tryz.prog 246 #[.func (.yield l) #[] #[],.pointer (some ⟨Bs,0,none⟩)] W fun e W'=>(∃v,e=.returned v)/\
   (J zs W'\/(∃pre,pre <+:zs/\Jx pre W')):=by
 refine callsIn_of_wp Tryz.func246 rfl trivial ?_ rfl;simp only[Tryz.ntmps246,List.size_toArray,List.length_cons,List.length_nil,Nat.reduceAdd,Nat.reduceSub,Array.replicate_succ,Array.replicate_zero,List.push_toArray,List.append_toArray,List.nil_append,List.cons_append]
 gi_wp2
 have HC:=zh hc;clear hc
 gi_loopw [7] (fun i wr=>∃k:Nat,k<=zs.length/\i=.int .i64 k/\J (zs.take k) wr/\Below n₀ W wr)
  (fun i _=>zs.length-(intOf i).toNat)
 case atStart=>exact⟨0,Nat.zero_le _,rfl,h0,Below.refl _ _⟩
 case round=>
  obtain⟨k,hk,rfl,hJs,hnx⟩:=hrel;by_cases rU:k<zs.length
  ·obtain⟨x,hx,-⟩:=getElem?_of_lt rU;have hcx':wr.cell? ⟨b,off+k,none⟩=some (.string x):=(hnx.cell (p:=⟨b,off+k,none⟩) hb).trans (HC.out k x hx);obtain⟨fn,tmps,assign,body,hy,hR⟩:=hY _ x wr hJs Y9;have HX:=zh (show zs.take (k+1)=zs.take k++[x] by rw[List.take_add_one,hx];rfl);clear hx
   gi_wp2
   refine hR.mono ?_;rintro e W3 (⟨rfl,hJ3,FZ⟩|⟨rfl,hJx3⟩)
   ·gi_wp2
    go_roundw;(case rel=>exact⟨k+1,YM,YR,by rw[HX.out];exact hJ3,hnx.trans FZ⟩);case measure=>simp[intOf];omega
   gi_wp2
   refine bodyPost_ret (results_none rfl _ _ _) rfl ?_;exact⟨⟨_,rfl⟩,.inr ⟨_,by rw[<-HX.out];exact List.take_prefix _ _,hJx3⟩⟩
  have hz:zs.take k=zs:=List.take_of_length_le YM;rw[hz] at hJs;clear hz
  gi_wp2
  go_end0;exact⟨⟨_,rfl⟩,.inl hJs⟩
theorem values1_nil_in(n:Nat)(l Bs:Nat)(a:Option Addr)(c:Nat)(J:List bA->World->Prop)(W:World)(NP:W.cell? ⟨Bs,0,none⟩=some (.slice a 0 c))(h0:J [] W):
  CallsIn Fence.wide n Tryz.prog 246 #[.func (.yield l) #[] #[],.pointer (some ⟨Bs,0,none⟩)] W fun e W'=>(∃v,e=.returned v)/\J [] W':=by
 refine callsIn_of_wp Tryz.func246 rfl trivial ?_ rfl;simp only[Tryz.ntmps246,List.size_toArray,List.length_cons,List.length_nil,Nat.reduceAdd,Nat.reduceSub,Array.replicate_succ,Array.replicate_zero,List.push_toArray,List.append_toArray,List.nil_append,List.cons_append]
 gi_wp2
 gi_loopw [7] (fun i wr=>i=.int .i64 0/\J [] wr) (fun _ _=>0)
 case atStart=>exact⟨rfl,h0⟩
 case round=>
  obtain⟨rfl,hJs⟩:=hrel
  gi_wp2
  go_end0;exact⟨⟨_,rfl⟩,hJs⟩
theorem values_stops(n:Nat)(hn:1<=n)(Bs n₀:Nat)(sv:Value)(zs:List bA)(w:World)(NP:Bs<w.heap.size)(hn₀:n₀<=w.heap.size)
  (hc:w.cell? ⟨Bs,0,none⟩=some sv) (w0:World) (hI:Strs w0 sv zs) (h0:w0.heap.size=n₀) (DK:Below n₀ w0 w):
  SeqStopsK Fence.wide n Tryz.prog 246 #[.pointer (some ⟨Bs,0,none⟩)] (fun x:bA=>#[Value.string x]) (Below n₀) (fun ys=>ys=zs) (fun pre=>pre <+:zs) zs.length w:=fun l J Jx W hW _ _ hY hj0=>by
 have RI:=(hW.cell (p:=⟨Bs,0,none⟩) NP).trans hc;have NN:Below w0.heap.size w0 W:=by rw[h0];exact DK.trans (hW.mono hn₀)
 rcases hI.cases with⟨rfl,a,c,rfl⟩|⟨b,o,c,rfl,tU,A2,zC,NH,yE⟩
 ·exact(values1_nil_in n l Bs a c J W RI hj0).mono fun e W' ⟨he,hj⟩=>⟨he,.inl ⟨_,rfl,hj⟩⟩
 refine(values1_in n hn l Bs n₀ b o c zs YM YM J Jx hY W RI (fun j x hx=>aD NN (yE j x hx).1) hj0).mono ?_;rintro e W' ⟨he,hj|⟨pre,hp,hj⟩⟩
 ·exact⟨he,.inl ⟨_,rfl,hj⟩⟩
 exact⟨he,.inr ⟨_,hp,hj⟩⟩
theorem values_any(a:Option Addr)(len cap:Nat)(w:World):
  Calls Tryz.prog 217 #[.slice a len cap] w fun e w'=>e=.returned (.func (.func 246) #[] #[.pointer (some ⟨w.heap.size,0,none⟩)])/\w'=w.alloc (.cells #[.slice a len cap] 23):=by
 go_enter Tryz.func217,Tryz.ntmps217;exact YG
attribute [local go_sem] Oper.semAt_some
theorem strInfo:(Tryz.prog.info? 9).map (fun i=>(i.zero,i.size,i.bytes))=some (some (.string ByteArray.empty),1,16):=YN
theorem appendSeq_any(Bs:Nat)(sv:Value)(zs:List bA)(w:World)(hc:w.cell? ⟨Bs,0,none⟩=some sv)(hI:Strs w sv zs)(hz:zs.length*16<=140737488355328):
  Calls Tryz.prog 273 #[.slice none 0 0,.func (.func 246) #[] #[.pointer (some ⟨Bs,0,none⟩)]] w fun e w'=>∃v,e=.returned v/\
   w'.ownsRow w.heap.size 9 1 v zs.length (zs.map Value.string)/\Below w.heap.size w w':=by
 obtain⟨i0,hi,vA,tF,sY⟩:=info_parts strInfo;have NP:=dS hc;refine(callsIn_wide (n:=6)).1 ?_;refine callsIn_of_wp_marks Tryz.func273 rfl trivial ?_ rfl;simp only[Tryz.ntmps273,List.size_toArray,List.length_cons,List.length_nil,Nat.reduceAdd,Nat.reduceSub,Array.replicate_succ,Array.replicate_zero,List.push_toArray,List.append_toArray,List.nil_append,List.cons_append]
 gi_wp2
 have bO:=Boxed.new w 23 (.slice none 0 0);have T3:Below w.heap.size w (w.alloc (.cells #[.slice none 0 0] 23)):=aA w _
 refine wpIn_rangeFunc_ownG rfl YO (gf:=246) (lb:=#[.pointer (some ⟨Bs,0,none⟩)]) rfl trivial (enters_of Tryz.func246 YN rfl)
  (values_stops 5 YM Bs w.heap.size sv zs _ Y9 YR (aD T3 hc) w hI rfl T3) belowK_t (belowK_b YR) (Below.refl _ _) (fun _=>rfl)
  (fun pre W=>(∃v,Boxed W w.heap.size 23 v/\W.ownsRow w.heap.size 9 1 v pre.length (pre.map Value.string)/\(v=.slice none 0 0↔pre=[]))/\Below w.heap.size w W)
  (fun _ _ _=>False)
  (OwnFrom.and (Own.from (holdsRow_own w.heap.size w.heap.size 23 9 1 (fun pre=>pre.length) (fun pre=>pre.map Value.string) (fun pre v=>v=.slice none 0 0↔pre=[])) _) (ownFrom_below (Nat.le_refl _) YR))
  (fun _ _ _ _ _ hs _ _=>hs)
  ⟨⟨_,bO,World.ownsRow_nil _ _ _ _,YR⟩,T3⟩
  (fun x=>{tmps:=#[.slice none 0 0,.func (.func 246) #[] #[.pointer (some ⟨Bs,0,none⟩)],.pointer (some ⟨w.heap.size,0,none⟩),undef,.slice none 0 0,.string x,.func (.func 246) #[] #[.pointer (some ⟨Bs,0,none⟩)],.string x,undef,undef,undef,undef,undef],defers:=[]}) ?assign ?body ?done ?stop
 case assign=>
  intro l x W K hK
  gi_wp2
  exact hK
 case body=>
  rintro l pre x W ⟨⟨v,hv,sJ,I1⟩,hB⟩ rU;have J3:=hv.cell
  gi_wp2_with (gi_at_builtin;refine wpListIn_append_own _ rfl _ _ 23 rfl w.heap.size 9 i0 (.string ByteArray.empty) 1 16 Tryz.underlying23 hi vA tF sY rfl YO _ _ _ rfl (sJ.alloc _) ⟨W.heap.size,0,none⟩ 1 1 [.string x] rfl rfl (cell_one_new _ _ _) Y3 Y7 YM (by have:=hB.size;simp;omega) ?_;intro v' w1 tT rN _;obtain⟨g',cap',rfl⟩:=ownsRow_succ tT;obtain⟨wP,wW,wB,OS,rQ⟩:=hv.appended YO sJ hB.size (Nat.le_refl _) tT rN;have DP:=wP.cell;have AO:=wP.frozen)
  exact⟨OS.from _,rQ,⟨_,wW,by simpa using wB,YR⟩,hB.trans rQ⟩
 case done=>
  rintro D ys W hD rfl ⟨⟨v,hv,sJ,I1⟩,hB⟩ hK;have J3:=hv.cell
  gi_wp2
  refine⟨YR,.inl ⟨_,_,rfl,run_takeDeferred hK,?_⟩⟩;exact⟨_,results_tmp rfl _ _ _,v,rfl,ownsRow_putObj sJ _ hK rfl,hB.trans (belowK_b (w:=w) (Nat.le_refl _) W D _ _ (by simp at hD;omega) hK rfl rfl)⟩
 case stop=>
  rintro D c pre W _ _ h _;exact h.elim
def OwnStrs(B:Nat)(w:World)(v:Value)(l:List bA):Prop:=
 (l=[]/\v=.slice none 0 0)\/∃g o c,v=.slice (some ⟨g,o,none⟩) l.length c/\B<=g/\g<w.heap.size/\l.length<=c/\c<=9223372036854775807/\
  ∀i x,l[i]? =some x->w.cell? ⟨g,o+i,none⟩=some (.string x)/\w.frozen? ⟨g,o+i,none⟩=false/\x.size<=140737488355328
theorem OwnStrs.strs{B:Nat}{w:World}{v:Value}{l:List bA}(h:OwnStrs B w v l):Strs w v l:=by
 rcases h with⟨rfl,rfl⟩|⟨g,o,c,rfl,-,-,h1,h2,hc⟩
 ·exact⟨none,0,rfl,YR,YR,fun h=>absurd rfl h⟩
 refine⟨_,c,rfl,h1,h2,fun _=>⟨g,o,rfl,fun i x hx=>⟨[.string x],⟨rfl,(hc i x hx).2.2⟩,rfl,fun j u hu=>?_⟩⟩⟩
 match j,hu with
 |0,hu=>cases hu;simpa using(hc i x hx).1
theorem OwnStrs.block{B B':Nat}{w:World}{v:Value}{l:List bA}(h:OwnStrs B w v l)(hB:B'<=B):∀a n c,v=.slice (some a) n c->B'<=a.block:=by
 intro a n c e;rcases h with⟨_,rfl⟩|⟨g,o,c',rfl,hg,_⟩
 ·cases e
 cases e;exact Nat.le_trans hB hg
theorem collect_any(Bs:Nat)(sv:Value)(zs:List bA)(w:World)(hc:w.cell? ⟨Bs,0,none⟩=some sv)(hI:Strs w sv zs)(hz:zs.length*16<=140737488355328):
  Calls Tryz.prog 245 #[.func (.func 246) #[] #[.pointer (some ⟨Bs,0,none⟩)]] w fun e w'=>∃v,e=.returned v/\
   w'.ownsRow w.heap.size 9 1 v zs.length (zs.map Value.string)/\Below w.heap.size w w':=by
 have HA:=zh (appendSeq_any Bs sv zs w hc hI hz);clear hc hI;go_enter Tryz.func245,Tryz.ntmps245;go_wp2_with fail;refine HA.out.mono ?_;rintro e w' ⟨v,rfl,sJ,hb⟩;have HR:=zh sJ;clear sJ;go_wp2_with fail;go_ret;exact⟨v,rfl,HR.out,hb⟩
theorem sortedSeq_any(Bs:Nat)(sv:Value)(zs:List bA)(w:World)(hc:w.cell? ⟨Bs,0,none⟩=some sv)(hI:Strs w sv zs)(hz:zs.length*16<=140737488355328):
  Calls Tryz.prog 216 #[.func (.func 246) #[] #[.pointer (some ⟨Bs,0,none⟩)]] w fun e w'=>∃v,e=.returned v/\OwnStrs w.heap.size w' v (gA zs)/\Below w.heap.size w w':=by
 have HA:=zh (collect_any Bs sv zs w hc hI hz);have HZ:=zh (fun x(hx:x∈zs)=>oL hI hx);clear hc hI;go_enter Tryz.func216,Tryz.ntmps216;go_wp2_with fail;refine HA.out.mono ?_;rintro e w' ⟨v,rfl,sJ,hb⟩;rcases sJ.2 with⟨rfl,h0⟩|⟨g,cap,cur,rfl,CJ,FE,r1,r2,r3,r4⟩
 ·have HE:Hid (zs=[]):=zh (List.eq_nil_of_length_eq_zero h0);clear sJ h0;have HS:=zh (Tryz.slices_Sort_string_none none 0 w');go_wp2_with fail;refine HS.out.mono ?_;rintro e w2 ⟨rfl,rfl⟩;go_wp2_with fail;go_ret;exact⟨_,rfl,.inl ⟨by rw[HE.out];simp[gA],rfl⟩,hb⟩
 have hgl:g<w'.heap.size:=(Array.getElem?_eq_some_iff.1 FE).1
 have J2:∀i x,zs[i]? =some x->w'.cell? ⟨g,0+i,none⟩=some (.string x)/\w'.frozen? ⟨g,0+i,none⟩=false:=by
  intro i x hx;rw[Nat.zero_add]
  have hx':cur[i]? =some (.string x):=by
   have:=congrArg (fun t:List Value=>t[i]?) r4;rw[Nat.mul_one,List.getElem?_take] at this;obtain⟨hi,rfl⟩:=Yb.1 hx;simpa[hi] using this
  exact⟨by simp[World.cell?,FE,hx'],by simp[World.frozen?,FE]⟩
 have HS:=zh (sort_str w.heap.size g 0 cap zs w' J2 hgl CJ YM);have zD:cap<=9223372036854775807:=r2;have hzc:zs.length<=cap:=r1;clear sJ J2 FE r1 r2 r3 r4;go_wp2_with fail;refine HS.out.mono ?_;rintro e w2 ⟨rfl,rQ,tE⟩;have uU:=zh tE;clear tE;go_wp2_with fail;go_ret;exact⟨_,rfl,.inr ⟨g,0,cap,by rw[gB];rfl,CJ,Nat.lt_of_lt_of_le hgl rQ.size,by rw[gB];exact hzc,zD,fun i x hx=>⟨(uU.out i x hx).1,(uU.out i x hx).2,HZ.out x (lR (List.mem_of_getElem? hx))⟩⟩,hb.trans rQ⟩
end Go.Proofs.YtiionicikdnnpaaGreatDoor
namespace Go.Proofs.YtiionicikdnnpaaGreatDoor
open Go.RowKit
theorem only_setCells(b:Nat):∀(vs:List Value)(o:Nat)(w:World),dU b w (w.setCells b o vs)
 |[],_,w=>dU.refl b w
 |v::r,o,w=>(dU.setCell w).trans (only_setCells b r (o+1) (w.setCell ⟨b,o,none⟩ v))
theorem dU.drewN{b:Nat}{w:World}(n:Nat):dU b w (w.drewN n):=⟨rfl,rfl,rfl,Nat.le_refl _,fun _ _ _=>rfl⟩
theorem strsOf_getD(l:List bA):Lib.strsOf (fun j=>l.getD j ByteArray.empty) l.length=l.map (·.data.toList):=by
 apply List.ext_getElem
 ·simp[Lib.strsOf]
 intro i h1 h2;have hi:i<l.length:=by simpa[Lib.strsOf] using h1
 simp[Lib.strsOf,hi]
theorem delete_at(g o c:Nat)(l:List bA)(i:Nat)(w:World)(hc:∀j x,l[j]? =some x->w.cell? ⟨g,o+j,none⟩=some (.string x)/\w.frozen? ⟨g,o+j,none⟩=false)
  (hi:i<l.length) (zD:l.length<=c) (hm:c<=9223372036854775807):
  Calls Tryz.prog 218 #[.slice (some ⟨g,o,none⟩) l.length c,.int .i64 i,.int .i64 ((i:Int)+1)] w fun e w'=>e=.returned (.slice (some ⟨g,o,none⟩) (l.eraseIdx i).length c)/\dU g w w'/\
   ∀j x,(l.eraseIdx i)[j]? =some x->w'.cell? ⟨g,o+j,none⟩=some (.string x)/\w'.frozen? ⟨g,o+j,none⟩=false:=by
 have uP:∀j,j<l.length->w.cell? ⟨g,o+j,none⟩=some (.string (l.getD j ByteArray.empty)):=fun j hj=>by
  rw[List.getD_eq_getElem?_getD,List.getElem?_eq_getElem hj];exact(hc j _ (List.getElem?_eq_getElem hj)).1
 have h:=Tryz.slices_Delete_string_cells g o l.length c i (i+1) (fun j=>l.getD j ByteArray.empty) w zD hm YM YM uP (fun j hj=>(hc j _ (List.getElem?_eq_getElem hj)).2);rw[strsOf_getD,show i+1-i=1 by omega] at h;have e1:(((i+1:Nat):Int))=(i:Int)+1:=YM;rw[e1] at h;refine h.mono ?_;rintro e w' ⟨rfl,q,rfl⟩;have hlen:(l.eraseIdx i).length=l.length-1:=by rw[List.length_eraseIdx];simp[hi]
 refine⟨by rw[hlen],(dU.drewN q).trans (only_setCells g _ o _),fun j x hx=>?_⟩;have hj:j<(l.eraseIdx i).length:=(Yb.1 hx).1;rw[World.frozen?_setCells]
 have hvs:((List.take i (List.map (fun x:bA=>x.data.toList) l)++List.drop (i+1) (List.map (fun x:bA=>x.data.toList) l)++List.replicate 1 []).map encStr)[j]? =some (.string x):=by
  have:(List.take i (List.map (fun x:bA=>x.data.toList) l)++List.drop (i+1) (List.map (fun x:bA=>x.data.toList) l))=List.map (fun x:bA=>x.data.toList) (l.eraseIdx i):=by
   rw[List.eraseIdx_eq_take_drop_succ,List.map_append,List.map_take,List.map_drop]
  rw[this,List.map_append,List.getElem?_append_left (by simpa using hj)];simp[hx]
 obtain⟨hj2,AB⟩:=Yb.1 hvs;refine⟨?_,(hc j _ (List.getElem?_eq_getElem YM)).2⟩;rw[World.cell?_setCells_in g _ o _ (fun j' BI=>?_) j hj2,AB];have:j'<l.length:=by simp at BI;omega
 have:=(hc j' _ (List.getElem?_eq_getElem this)).1;show(w.cell? _).isSome=true;rw[this];rfl
end Go.Proofs.YtiionicikdnnpaaGreatDoor
