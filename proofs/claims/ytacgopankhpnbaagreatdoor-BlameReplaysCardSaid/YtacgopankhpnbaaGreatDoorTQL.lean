/- Texts of this seat, joined. -/
import Derived.RangeFuncNested
import Derived.RangeFuncBound
import Derived.Test.YtacgopankhpnbaaGreatDoorTQK
set_option maxHeartbeats 2000000
set_option maxRecDepth 100000
set_option linter.unusedVariables false
set_option linter.unusedSimpArgs false
namespace Go.Proofs.YtacgopankhpnbaaGreatDoor
open Go.RowKit Go.Shelf
theorem aAF{p:Prop}(h:p:=by
 go_wp2_with fail;go_ret
 exact⟨rfl,rfl⟩):p:=h
attribute [local go_sem] Oper.semAt_some
theorem values1_in(n:Nat)(hn:1<=n)(l Bs n₀ b off cap:Nat)(zs:List bA)(hreach:zs.length<=9223372036854775807)(hb:b<n₀)(J Jx:List bA->World->Prop)
  (hY:∀pre x W,J pre W->pre.length<zs.length->YieldAt Fence.wide (n-1) Tryz.prog l #[.string x] W fun e W'=>
   (e=.returned (.bool true)/\J (pre++[x]) W'/\Below n₀ W W')\/(e=.returned (.bool false)/\Jx (pre++[x]) W'))
  (W:World) (PN:W.cell? ⟨Bs,0,none⟩=some (.slice (some ⟨b,off,none⟩) zs.length cap)) (hc:∀j x,zs[j]? =some x->W.cell? ⟨b,off+j,none⟩=some (.string x)) (h0:J [] W):
  CallsIn Fence.wide n Tryz.prog 160 #[.func (.yield l) #[] #[],.pointer (some ⟨Bs,0,none⟩)] W fun e W'=>(∃v,e=.returned v)/\
   (J zs W'\/(∃pre,pre <+:zs/\Jx pre W')):=by
 refine callsIn_of_wp Tryz.func160 rfl trivial ?_ rfl;simp only[Tryz.ntmps160,List.size_toArray,List.length_cons,List.length_nil,Nat.reduceAdd,Nat.reduceSub,Array.replicate_succ,Array.replicate_zero,List.push_toArray,List.append_toArray,List.nil_append,List.cons_append]
 gi_wp2
 have HC:=zh hc;clear hc
 gi_loopw [7] (fun i wr=>∃k:Nat,k<=zs.length/\i=.int .i64 k/\J (zs.take k) wr/\Below n₀ W wr)
  (fun i _=>zs.length-(intOf i).toNat)
 case atStart=>exact⟨0,Nat.zero_le _,rfl,h0,Below.refl _ _⟩
 case round=>
  obtain⟨k,hk,rfl,hJs,hnx⟩:=hrel;by_cases sE:k<zs.length
  ·obtain⟨x,hx,-⟩:=getElem?_of_lt sE;have hcx':wr.cell? ⟨b,off+k,none⟩=some (.string x):=(hnx.cell (p:=⟨b,off+k,none⟩) hb).trans (HC.out k x hx);obtain⟨fn,tmps,assign,body,hy,hR⟩:=hY _ x wr hJs aA0;have HX:=zh (show zs.take (k+1)=zs.take k++[x] by rw[List.take_add_one,hx];rfl);clear hx
   gi_wp2
   refine hR.mono ?_;rintro e W3 (⟨rfl,hJ3,C9⟩|⟨rfl,hJx3⟩)
   ·gi_wp2
    go_roundw;(case rel=>exact⟨k+1,aAM,aAQ,by rw[HX.out];exact hJ3,hnx.trans C9⟩);case measure=>simp[intOf];omega
   gi_wp2
   refine bodyPost_ret (results_none rfl _ _ _) rfl ?_;exact⟨⟨_,rfl⟩,.inr ⟨_,by rw[<-HX.out];exact List.take_prefix _ _,hJx3⟩⟩
  have hz:zs.take k=zs:=List.take_of_length_le aAM;rw[hz] at hJs;clear hz
  gi_wp2
  go_end0;exact⟨⟨_,rfl⟩,.inl hJs⟩
theorem values1_nil_in(n:Nat)(l Bs:Nat)(a:Option Addr)(c:Nat)(J:List bA->World->Prop)(W:World)(PN:W.cell? ⟨Bs,0,none⟩=some (.slice a 0 c))(h0:J [] W):
  CallsIn Fence.wide n Tryz.prog 160 #[.func (.yield l) #[] #[],.pointer (some ⟨Bs,0,none⟩)] W fun e W'=>(∃v,e=.returned v)/\J [] W':=by
 refine callsIn_of_wp Tryz.func160 rfl trivial ?_ rfl;simp only[Tryz.ntmps160,List.size_toArray,List.length_cons,List.length_nil,Nat.reduceAdd,Nat.reduceSub,Array.replicate_succ,Array.replicate_zero,List.push_toArray,List.append_toArray,List.nil_append,List.cons_append]
 gi_wp2
 gi_loopw [7] (fun i wr=>i=.int .i64 0/\J [] wr) (fun _ _=>0)
 case atStart=>exact⟨rfl,h0⟩
 case round=>
  obtain⟨rfl,hJs⟩:=hrel
  gi_wp2
  go_end0;exact⟨⟨_,rfl⟩,hJs⟩
theorem values_stops(n:Nat)(hn:1<=n)(Bs n₀:Nat)(sv:Value)(zs:List bA)(w:World)(PN:Bs<w.heap.size)(hn₀:n₀<=w.heap.size)
  (hc:w.cell? ⟨Bs,0,none⟩=some sv) (w0:World) (hI:Strs w0 sv zs) (h0:w0.heap.size=n₀) (EZ:Below n₀ w0 w):
  SeqStopsK Fence.wide n Tryz.prog 160 #[.pointer (some ⟨Bs,0,none⟩)] (fun x:bA=>#[Value.string x]) (Below n₀) (fun ys=>ys=zs) (fun pre=>pre <+:zs) zs.length w:=fun l J Jx W hW _ _ hY VE=>by
 have FH:=(hW.cell (p:=⟨Bs,0,none⟩) PN).trans hc;have ES:Below w0.heap.size w0 W:=by rw[h0];exact EZ.trans (hW.mono hn₀)
 rcases hI.cases with⟨rfl,a,c,rfl⟩|⟨b,o,c,rfl,uQ,yQ,zR,JH,wC⟩
 ·exact(values1_nil_in n l Bs a c J W FH VE).mono fun e W' ⟨he,hj⟩=>⟨he,.inl ⟨_,rfl,hj⟩⟩
 refine(values1_in n hn l Bs n₀ b o c zs aAM aAM J Jx hY W FH (fun j x hx=>aC ES (wC j x hx).1) VE).mono ?_;rintro e W' ⟨he,hj|⟨pre,hp,hj⟩⟩
 ·exact⟨he,.inl ⟨_,rfl,hj⟩⟩
 exact⟨he,.inr ⟨_,hp,hj⟩⟩
theorem values_any(a:Option Addr)(len cap:Nat)(w:World):
  Calls Tryz.prog 117 #[.slice a len cap] w fun e w'=>e=.returned (.func (.func 160) #[] #[.pointer (some ⟨w.heap.size,0,none⟩)])/\w'=w.alloc (.cells #[.slice a len cap] 22):=by
 go_enter Tryz.func117,Tryz.ntmps117;exact aAF
attribute [local go_sem] Oper.semAt_some
theorem strInfo:(Tryz.prog.info? 9).map (fun i=>(i.zero,i.size,i.bytes))=some (some (.string ByteArray.empty),1,16):=aAN
theorem appendSeq_any(Bs:Nat)(sv:Value)(zs:List bA)(w:World)(hc:w.cell? ⟨Bs,0,none⟩=some sv)(hI:Strs w sv zs)(hz:zs.length*16<=140737488355328):
  Calls Tryz.prog 201 #[.slice none 0 0,.func (.func 160) #[] #[.pointer (some ⟨Bs,0,none⟩)]] w fun e w'=>∃v,e=.returned v/\
   w'.ownsRow w.heap.size 9 1 v zs.length (zs.map Value.string)/\Below w.heap.size w w':=by
 obtain⟨i0,hi,tM,sY,sX⟩:=info_parts strInfo;have PN:=cT hc;refine(callsIn_wide (n:=6)).1 ?_;refine callsIn_of_wp_marks Tryz.func201 rfl trivial ?_ rfl;simp only[Tryz.ntmps201,List.size_toArray,List.length_cons,List.length_nil,Nat.reduceAdd,Nat.reduceSub,Array.replicate_succ,Array.replicate_zero,List.push_toArray,List.append_toArray,List.nil_append,List.cons_append]
 gi_wp2
 have bO:=Boxed.new w 22 (.slice none 0 0);have WC:Below w.heap.size w (w.alloc (.cells #[.slice none 0 0] 22)):=aA w _
 refine wpIn_rangeFunc_ownG rfl aAO (gf:=160) (lb:=#[.pointer (some ⟨Bs,0,none⟩)]) rfl trivial (enters_of Tryz.func160 aAN rfl)
  (values_stops 5 aAM Bs w.heap.size sv zs _ aA0 aAQ (aC WC hc) w hI rfl WC) belowK_t (belowK_b aAQ) (Below.refl _ _) (fun _=>rfl)
  (fun pre W=>(∃v,Boxed W w.heap.size 22 v/\W.ownsRow w.heap.size 9 1 v pre.length (pre.map Value.string)/\(v=.slice none 0 0↔pre=[]))/\Below w.heap.size w W)
  (fun _ _ _=>False)
  (OwnFrom.and (Own.from (holdsRow_own w.heap.size w.heap.size 22 9 1 (fun pre=>pre.length) (fun pre=>pre.map Value.string) (fun pre v=>v=.slice none 0 0↔pre=[])) _) (ownFrom_below (Nat.le_refl _) aAQ))
  (fun _ _ _ _ _ hs _ _=>hs)
  ⟨⟨_,bO,World.ownsRow_nil _ _ _ _,aAQ⟩,WC⟩
  (fun x=>{tmps:=#[.slice none 0 0,.func (.func 160) #[] #[.pointer (some ⟨Bs,0,none⟩)],.pointer (some ⟨w.heap.size,0,none⟩),undef,.slice none 0 0,.string x,.func (.func 160) #[] #[.pointer (some ⟨Bs,0,none⟩)],.string x,undef,undef,undef,undef,undef],defers:=[]}) ?assign ?body ?done ?stop
 case assign=>
  intro l x W K hK
  gi_wp2
  exact hK
 case body=>
  rintro l pre x W ⟨⟨v,hv,tF,KJ⟩,hB⟩ sE;have RE:=hv.cell
  gi_wp2_with (gi_at_builtin;refine wpListIn_append_own _ rfl _ _ 22 rfl w.heap.size 9 i0 (.string ByteArray.empty) 1 16 Tryz.underlying22 hi tM sY sX rfl aAO _ _ _ rfl (tF.alloc _) ⟨W.heap.size,0,none⟩ 1 1 [.string x] rfl rfl (cell_one_new _ _ _) aA1 aAY aAM (by have:=hB.size;simp;omega) ?_;intro v' w1 wG sA _;obtain⟨g',cap',rfl⟩:=ownsRow_succ wG;obtain⟨MM,QK,yB,CG,sD⟩:=hv.appended aAO tF hB.size (Nat.le_refl _) wG sA;have NM:=MM.cell;have hf1:=MM.frozen)
  exact⟨CG.from _,sD,⟨_,QK,by simpa using yB,aAQ⟩,hB.trans sD⟩
 case done=>
  rintro D ys W hD rfl ⟨⟨v,hv,tF,KJ⟩,hB⟩ hK;have RE:=hv.cell
  gi_wp2
  refine⟨aAQ,.inl ⟨_,_,rfl,run_takeDeferred hK,?_⟩⟩;exact⟨_,results_tmp rfl _ _ _,v,rfl,ownsRow_putObj tF _ hK rfl,hB.trans (belowK_b (w:=w) (Nat.le_refl _) W D _ _ (by simp at hD;omega) hK rfl rfl)⟩
 case stop=>
  rintro D c pre W _ _ h _;exact h.elim
def OwnStrs(B:Nat)(w:World)(v:Value)(l:List bA):Prop:=
 (l=[]/\v=.slice none 0 0)\/∃g o c,v=.slice (some ⟨g,o,none⟩) l.length c/\B<=g/\g<w.heap.size/\l.length<=c/\c<=9223372036854775807/\
  ∀i x,l[i]? =some x->w.cell? ⟨g,o+i,none⟩=some (.string x)/\w.frozen? ⟨g,o+i,none⟩=false/\x.size<=140737488355328
theorem OwnStrs.strs{B:Nat}{w:World}{v:Value}{l:List bA}(h:OwnStrs B w v l):Strs w v l:=by
 rcases h with⟨rfl,rfl⟩|⟨g,o,c,rfl,-,-,h1,h2,hc⟩
 ·exact⟨none,0,rfl,aAQ,aAQ,fun h=>absurd rfl h⟩
 refine⟨_,c,rfl,h1,h2,fun _=>⟨g,o,rfl,fun i x hx=>⟨[.string x],⟨rfl,(hc i x hx).2.2⟩,rfl,fun j u hu=>?_⟩⟩⟩
 match j,hu with
 |0,hu=>cases hu;simpa using(hc i x hx).1
theorem OwnStrs.block{B B':Nat}{w:World}{v:Value}{l:List bA}(h:OwnStrs B w v l)(hB:B'<=B):∀a n c,v=.slice (some a) n c->B'<=a.block:=by
 intro a n c e;rcases h with⟨_,rfl⟩|⟨g,o,c',rfl,hg,_⟩
 ·cases e
 cases e;exact Nat.le_trans hB hg
theorem collect_any(Bs:Nat)(sv:Value)(zs:List bA)(w:World)(hc:w.cell? ⟨Bs,0,none⟩=some sv)(hI:Strs w sv zs)(hz:zs.length*16<=140737488355328):
  Calls Tryz.prog 159 #[.func (.func 160) #[] #[.pointer (some ⟨Bs,0,none⟩)]] w fun e w'=>∃v,e=.returned v/\
   w'.ownsRow w.heap.size 9 1 v zs.length (zs.map Value.string)/\Below w.heap.size w w':=by
 have HA:=zh (appendSeq_any Bs sv zs w hc hI hz);clear hc hI;go_enter Tryz.func159,Tryz.ntmps159;go_wp2_with fail;refine HA.out.mono ?_;rintro e w' ⟨v,rfl,tF,hb⟩;have HR:=zh tF;clear tF;go_wp2_with fail;go_ret;exact⟨v,rfl,HR.out,hb⟩
theorem sortedSeq_any(Bs:Nat)(sv:Value)(zs:List bA)(w:World)(hc:w.cell? ⟨Bs,0,none⟩=some sv)(hI:Strs w sv zs)(hz:zs.length*16<=140737488355328):
  Calls Tryz.prog 116 #[.func (.func 160) #[] #[.pointer (some ⟨Bs,0,none⟩)]] w fun e w'=>∃v,e=.returned v/\OwnStrs w.heap.size w' v (fQ zs)/\Below w.heap.size w w':=by
 have HA:=zh (collect_any Bs sv zs w hc hI hz);have HZ:=zh (fun x(hx:x∈zs)=>lZ hI hx);clear hc hI;go_enter Tryz.func116,Tryz.ntmps116;go_wp2_with fail;refine HA.out.mono ?_;rintro e w' ⟨v,rfl,tF,hb⟩;rcases tF.2 with⟨rfl,h0⟩|⟨g,cap,cur,rfl,DF,yY,r1,r2,r3,r4⟩
 ·have HE:Hid (zs=[]):=zh (List.eq_nil_of_length_eq_zero h0);clear tF h0;have HS:=zh (Tryz.slices_Sort_string_none none 0 w');go_wp2_with fail;refine HS.out.mono ?_;rintro e w2 ⟨rfl,rfl⟩;go_wp2_with fail;go_ret;exact⟨_,rfl,.inl ⟨by rw[HE.out];simp[fQ],rfl⟩,hb⟩
 have hgl:g<w'.heap.size:=(Array.getElem?_eq_some_iff.1 yY).1
 have GR:∀i x,zs[i]? =some x->w'.cell? ⟨g,0+i,none⟩=some (.string x)/\w'.frozen? ⟨g,0+i,none⟩=false:=by
  intro i x hx;rw[Nat.zero_add]
  have hx':cur[i]? =some (.string x):=by
   have:=congrArg (fun t:List Value=>t[i]?) r4;rw[Nat.mul_one,List.getElem?_take] at this;obtain⟨hi,rfl⟩:=Yb.1 hx;simpa[hi] using this
  exact⟨by simp[World.cell?,yY,hx'],by simp[World.frozen?,yY]⟩
 have HS:=zh (sort_str w.heap.size g 0 cap zs w' GR hgl DF aAM);have yZ:cap<=9223372036854775807:=r2;have hzc:zs.length<=cap:=r1;clear tF GR yY r1 r2 r3 r4;go_wp2_with fail;refine HS.out.mono ?_;rintro e w2 ⟨rfl,sD,tU⟩;have BL:=zh tU;clear tU;go_wp2_with fail;go_ret;exact⟨_,rfl,.inr ⟨g,0,cap,by rw[fM];rfl,DF,Nat.lt_of_lt_of_le hgl sD.size,by rw[fM];exact hzc,yZ,fun i x hx=>⟨(BL.out i x hx).1,(BL.out i x hx).2,HZ.out x (mC (List.mem_of_getElem? hx))⟩⟩,hb.trans sD⟩
end Go.Proofs.YtacgopankhpnbaaGreatDoor
namespace Go.Proofs.YtacgopankhpnbaaGreatDoor
open Go.RowKit
theorem qU(b:Nat):∀(vs:List Value)(o:Nat)(w:World),bS b w (w.setCells b o vs)
 |[],_,w=>bS.refl b w
 |v::r,o,w=>(bS.setCell w).trans (qU b r (o+1) (w.setCell ⟨b,o,none⟩ v))
theorem bS.drewN{b:Nat}{w:World}(n:Nat):bS b w (w.drewN n):=⟨rfl,rfl,rfl,Nat.le_refl _,fun _ _ _=>rfl⟩
theorem strsOf_getD(l:List bA):Lib.strsOf (fun j=>l.getD j ByteArray.empty) l.length=l.map (·.data.toList):=by
 apply List.ext_getElem
 ·simp[Lib.strsOf]
 intro i h1 h2;have hi:i<l.length:=by simpa[Lib.strsOf] using h1
 simp[Lib.strsOf,hi]
theorem delete_at(g o c:Nat)(l:List bA)(i:Nat)(w:World)(hc:∀j x,l[j]? =some x->w.cell? ⟨g,o+j,none⟩=some (.string x)/\w.frozen? ⟨g,o+j,none⟩=false)
  (hi:i<l.length) (yZ:l.length<=c) (hm:c<=9223372036854775807):
  Calls Tryz.prog 118 #[.slice (some ⟨g,o,none⟩) l.length c,.int .i64 i,.int .i64 ((i:Int)+1)] w fun e w'=>e=.returned (.slice (some ⟨g,o,none⟩) (l.eraseIdx i).length c)/\bS g w w'/\
   ∀j x,(l.eraseIdx i)[j]? =some x->w'.cell? ⟨g,o+j,none⟩=some (.string x)/\w'.frozen? ⟨g,o+j,none⟩=false:=by
 have tH:∀j,j<l.length->w.cell? ⟨g,o+j,none⟩=some (.string (l.getD j ByteArray.empty)):=fun j hj=>by
  rw[List.getD_eq_getElem?_getD,List.getElem?_eq_getElem hj];exact(hc j _ (List.getElem?_eq_getElem hj)).1
 have h:=Tryz.slices_Delete_string_cells g o l.length c i (i+1) (fun j=>l.getD j ByteArray.empty) w yZ hm aAM aAM tH (fun j hj=>(hc j _ (List.getElem?_eq_getElem hj)).2);rw[strsOf_getD,show i+1-i=1 by omega] at h;have e1:(((i+1:Nat):Int))=(i:Int)+1:=aAM;rw[e1] at h;refine h.mono ?_;rintro e w' ⟨rfl,q,rfl⟩;have hlen:(l.eraseIdx i).length=l.length-1:=by rw[List.length_eraseIdx];simp[hi]
 refine⟨by rw[hlen],(bS.drewN q).trans (qU g _ o _),fun j x hx=>?_⟩;have hj:j<(l.eraseIdx i).length:=(Yb.1 hx).1;rw[World.frozen?_setCells]
 have QJ:((List.take i (List.map (fun x:bA=>x.data.toList) l)++List.drop (i+1) (List.map (fun x:bA=>x.data.toList) l)++List.replicate 1 []).map encStr)[j]? =some (.string x):=by
  have:(List.take i (List.map (fun x:bA=>x.data.toList) l)++List.drop (i+1) (List.map (fun x:bA=>x.data.toList) l))=List.map (fun x:bA=>x.data.toList) (l.eraseIdx i):=by
   rw[List.eraseIdx_eq_take_drop_succ,List.map_append,List.map_take,List.map_drop]
  rw[this,List.map_append,List.getElem?_append_left (by simpa using hj)];simp[hx]
 obtain⟨TL,MH⟩:=Yb.1 QJ;refine⟨?_,(hc j _ (List.getElem?_eq_getElem aAM)).2⟩;rw[World.cell?_setCells_in g _ o _ (fun j' zJ=>?_) j TL,MH];have:j'<l.length:=by simp at zJ;omega
 have:=(hc j' _ (List.getElem?_eq_getElem this)).1;show(w.cell? _).isSome=true;rw[this];rfl
end Go.Proofs.YtacgopankhpnbaaGreatDoor
