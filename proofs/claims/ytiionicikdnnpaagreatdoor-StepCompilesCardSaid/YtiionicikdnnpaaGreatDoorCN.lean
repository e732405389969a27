/- Texts of this seat, joined. -/
import Derived.Test.YtiionicikdnnpaaGreatDoorCK
import Derived.Test.YtiionicikdnnpaaGreatDoorGlob
import Derived.Lib.ItoaLen
import Derived.Lib.AppendIntMem
set_option maxHeartbeats 1000000
set_option linter.unusedVariables false
set_option linter.unusedSimpArgs false
namespace Go.Proofs.YtiionicikdnnpaaGreatDoor
open Go.RowKit
theorem rowsL_take{l:List bA}{k:Nat}{x:bA}(hx:l[k]? =some x):jP (l.take (k+1))=jP (l.take k)++x.data.toList++[10]:=by
 simp[jP,List.take_add_one,hx]
theorem rowsL_le(l:List bA)(k:Nat):(jP (l.take k)).length<=(jP l).length:=by
 have:jP l=jP (l.take k)++jP (l.drop k):=by simp only[jP,<-List.flatMap_append,List.take_append_drop]
 rw[this,List.length_append];omega
theorem byteCells_nl(a:List UInt8)(x:bA):Lib.byteCells (a++x.data.toList++[10])=Lib.byteCells a++Lib.strCells x++[.int .u8 10]:=by
 rw[Lib.byteCells_append,Lib.byteCells_append];rfl
theorem rows_any(l:List bA)(v:Value)(w:World)(hv:Strs w v l)(hlen:(jP l).length<=140737488355328):
  Calls Tryz.prog 175 #[v] w fun e w'=>e=.returned (.string (rowsB l))/\Below w.heap.size w w':=by
 have HV:=zh hv;rcases hv.cases with⟨rfl,a,c,rfl⟩|⟨b,o,c,rfl,h0,h1,h2,hb,hc⟩
 ·clear hv;go_enter Tryz.func175,Tryz.ntmps175;go_wp2_with fail;go_loop [8] (fun i=>i=.int .i64 0) (fun i=>0)
  case atStart=>rfl
  case round=>
   subst hrel;have hB:=Lib.fresh_isBuilder 100 5 w;go_wp2_with(go_at_call 156;refine(Tryz.Builder_String_any w.heap.size w.heap.size [] _ hB YR).mono ?_;rintro e w' ⟨rfl,uR⟩);go_ret;exact⟨rfl,(aA w _).trans (uR.mono YR)⟩
 clear hv;have HC:=zh hc;clear hc;go_enter Tryz.func175,Tryz.ntmps175;go_wp2_with fail;go_loopw [8] (fun i wr=>∃k:Nat,k<=l.length/\i=.int .i64 k/\Lib.IsBuilder 100 5 w.heap.size w.heap.size (Lib.byteCells (jP (l.take k))) wr/\Below w.heap.size w wr) (fun i _=>l.length-(intOf i).toNat)
 case atStart=>exact⟨0,Nat.zero_le _,rfl,Lib.fresh_isBuilder 100 5 w,aA w _⟩
 case round=>
  obtain⟨k,hk,rfl,hB,vK⟩:=hrel;have HB:=zh hB;clear hB;have tK:w.heap.size<=wr.heap.size:=vK.size;by_cases rU:k<l.length
  ·obtain⟨x,hx,-⟩:=getElem?_of_lt rU;have uP:=aD vK (HC.out k x hx).1;have yM:=rowsL_le l (k+1);have HT:=zh (rowsL_take hx)
   have zC:(jP (l.take k)).length+x.size+1<=140737488355328:=by
    rw[HT.out] at yM;simp at yM;have:x.data.toList.length=x.size:=YR;simp at this;omega
   have HL2:=zh zC;clear hx HC yM zC;go_wp2_with fail;refine(writeString_any w.heap.size w.heap.size _ x _ HB.out (by rw[Lib.byteCells_length];have:=HL2.out;omega) tK).mono ?_;rintro e w1 ⟨rfl,hB1,rR⟩;have sT:=zh hB1;clear hB1;go_wp2_with fail;refine(writeByte_any w.heap.size w.heap.size _ 10 _ (.inr sT.out) (by simp[Lib.byteCells_length,Lib.strCells_length];have:=HL2.out;omega) (Nat.le_trans tK rR.size)).mono ?_;rintro e w2 ⟨rfl,hB2,rQ⟩;have rZ:=zh hB2;clear hB2;go_wp2_with fail;go_roundw;(case rel=>exact⟨k+1,YM,YZ,.inr (by rw[HT.out,byteCells_nl];exact rZ.out),(vK.trans rR).trans rQ⟩);case measure=>simp[intOf];omega
  have NJ:l.take k=l:=List.take_of_length_le YM;rw[NJ] at HB;clear NJ;go_wp2_with(go_at_call 156;refine(Tryz.Builder_String_any w.heap.size w.heap.size _ _ HB.out tK).mono ?_;rintro e w' ⟨rfl,uR⟩);go_ret;exact⟨rfl,vK.trans uR⟩
theorem bytes_ext'{s t:bA}(h:s.data.toList=t.data.toList):s=t:=by
 cases s;cases t;congr;exact Array.toList_inj.1 h
theorem gB(l:List bA):(gA l).length=l.length:=by simp[gA]
theorem bytes_toList(x:bA):(⟨x.data.toList.toArray⟩:bA)=x:=by cases x;simp
theorem getElem?_sortB{l:List bA}{i:Nat}{x:bA}(h:(gA l)[i]? =some x):((l.map (·.data.toList)).mergeSort fun x y=>decide (x<=y))[i]? =some x.data.toList:=by
 rw[gA,List.getElem?_map] at h
 cases hh:((l.map (·.data.toList)).mergeSort fun x y=>decide (x<=y))[i]? with
 |none=>rw[hh] at h;cases h
 |some y=>rw[hh] at h;cases h;simp
theorem sort_str(B g o c:Nat)(l:List bA)(w:World)(hc:∀i x,l[i]? =some x->w.cell? ⟨g,o+i,none⟩=some (.string x)/\w.frozen? ⟨g,o+i,none⟩=false)(hg:g<w.heap.size)(hB:B<=g)(hl:l.length<=140737488355328):
  Calls Tryz.prog 211 #[.slice (some ⟨g,o,none⟩) l.length c] w fun e w'=>e=.returned (.tuple #[])/\Below B w w'/\
   ∀i x,(gA l)[i]? =some x->w'.cell? ⟨g,o+i,none⟩=some (.string x)/\w'.frozen? ⟨g,o+i,none⟩=false:=by
 have hH:Sort.Holds encStr w g o (l.map (·.data.toList)).toArray:=by
  intro j hj;simp at hj;obtain⟨h1,h2⟩:=hc j l[j] (List.getElem?_eq_getElem hj);refine⟨?_,h2⟩;rw[h1];simp[hj]
 have h:=Tryz.slices_Sort_string g o c (l.map (·.data.toList)) w hH hg Y9;rw[List.length_map] at h;refine h.mono ?_;rintro e w' ⟨rfl,n,os,rfl⟩;have hs:((l.map (·.data.toList)).mergeSort fun x y=>decide (x<=y)).toArray.size=(l.map (·.data.toList)).toArray.size:=YR;have hg':g<(Sort.putRow encStr (Sort.ahead w n) g o ((l.map (·.data.toList)).mergeSort fun x y=>decide (x<=y)).toArray).heap.size:=by simpa[Sort.putRow,Sort.mapBlock,Sort.ahead] using hg
 refine⟨rfl,⟨rfl,rfl,rfl,?_,fun k hk=>?_⟩,fun i x hx=>?_⟩
 ·simp[Sort.grow,Sort.putRow,Sort.mapBlock,Sort.ahead]
 ·rw[Sort.heap_grow_old _ _ (by simp[Sort.putRow,Sort.mapBlock,Sort.ahead];omega)];simp[Sort.putRow,Sort.mapBlock,Sort.ahead,Array.getElem?_modify,show g≠k by omega]
 have h1:=getElem?_sortB hx;obtain⟨hi,AB⟩:=Yb.1 h1;have:=Sort.holds_grow encStr _ os g o _ hg' (Sort.holds_putRow encStr (Sort.ahead w n) g o _ _ (Sort.holds_ahead encStr w n g o _ hH) hs) i (by simpa using hi);rw[this.1,this.2];refine⟨?_,rfl⟩
 have e:((l.map (·.data.toList)).mergeSort fun x y=>decide (x<=y)).toArray[i]! =x.data.toList:=by
  rw[getElem!_pos _ i (by simpa using hi)];simpa using AB
 rw[e]
theorem linesOf_length(t:bA):(nC t).length=Lib.countB ⟨(Lib.trimSuffix t.data.toList [10]).toArray⟩ nl+1:=
 Lib.splitB_all nl YO 0 _ _ rfl
theorem splitB_size(sep:bA):∀(k:Nat)(s:bA)(x:bA),x∈Lib.splitB sep 0 k s->x.size<=s.size
 |0,s,x,h=>by simp[Lib.splitB] at h;rw[h];exact Nat.le_refl _
 |k+1,s,x,h=>by
  rw[Lib.splitB] at h;split at h
  ·simp at h;rw[h];exact Nat.le_refl _
  rw[List.mem_cons] at h;rcases h with rfl|h
  ·simp;omega
  have:=splitB_size sep k _ x h;simp at this;omega
theorem lR{l:List bA}{x:bA}(h:x∈gA l):x∈l:=by
 simp only[gA,List.mem_map,List.mem_mergeSort] at h;obtain⟨y,⟨z,hz,rfl⟩,rfl⟩:=h;rw[bytes_toList];exact hz
theorem trim_size(t:bA):(⟨(Lib.trimSuffix t.data.toList [10]).toArray⟩:bA).size<=t.size:=by
 show(Lib.trimSuffix t.data.toList [10]).toArray.size<=_;unfold Lib.trimSuffix;have:t.data.toList.length=t.size:=YR;split<;>simp at this ⊢ <;>omega
theorem sorted_any(t:bA)(w:World)(hG:eJ w)(ht:t.size<=1000000):
  Calls Tryz.prog 176 #[.string t] w fun e w'=>∃v,e=.returned v/\Strs w' v (cY t)/\Below w.heap.size w w':=by
 by_cases he:t.toList=[]
 ·have hs:cY t=[]:=by simp[cY,he]
  rw[hs];clear hs;go_enter Tryz.func176,Tryz.ntmps176;go_wp2_with fail;go_ret;exact⟨_,rfl,⟨none,0,rfl,YR,YR,fun h=>absurd rfl h⟩,Below.refl _ _⟩
 have hs:cY t=gA (nC t):=by
  have:t.toList.isEmpty=false:=by cases hh:t.toList with
   |nil=>exact absurd hh he
   |cons=>rfl
  simp[cY,this]
 obtain⟨m,hm⟩:=hG.maxLen;have yM:=trim_size t;have xP:=Tryz.strings_Split ⟨(Lib.trimSuffix t.data.toList [10]).toArray⟩ nl m w YM hm YO;have hcnt:=Lib.countB_le nl YO t.size _ yM;have hl:=linesOf_length t;rw[show Lib.countB ⟨(Lib.trimSuffix t.data.toList [10]).toArray⟩ nl+1=(nC t).length from hl.symm] at xP;change Calls _ _ _ _ (fun e w'=>e=_/\w'=w.alloc (.cells ((nC t).map Value.string).toArray 9)) at xP;have htr:=Tryz.strings_TrimSuffix t nl w YM;rw[hs];have hlen:(nC t).length<=1000001:=YM
 have HZ:=zh (show ∀x,x∈nC t->x.size<=140737488355328 from fun x hx=>by
  have:=splitB_size nl _ _ x hx
  omega)
 generalize nC t=ls at xP hlen HZ ⊢;change Calls _ _ _ _ (fun e w'=>e=.returned (.string ⟨(Lib.trimSuffix t.data.toList [10]).toArray⟩)/\w'=w) at htr;generalize (⟨(Lib.trimSuffix t.data.toList [10]).toArray⟩:bA)=ts at htr xP yM;have HS:=zh xP;have HT:=zh htr
 have AP:(t.toList.isEmpty)=false:=by cases hh:t.toList with
  |nil=>exact absurd hh he
  |cons=>rfl
 clear xP htr hs hm hcnt hl yM he hG;go_enter Tryz.func176,Tryz.ntmps176;go_wp2_with fail;refine HT.out.mono ?_;rintro e w' ⟨rfl,rfl⟩;go_wp2_with fail;refine HS.out.mono ?_;rintro e w1 ⟨rfl,rfl⟩
 have J2:∀i x,ls[i]? =some x->(w'.alloc (.cells (List.map Value.string ls).toArray 9)).cell? ⟨w'.heap.size,0+i,none⟩=some (.string x)/\(w'.alloc (.cells (List.map Value.string ls).toArray 9)).frozen? ⟨w'.heap.size,0+i,none⟩=false:=by
  intro i x hx;rw[Nat.zero_add];constructor
  ·simp only[World.cell?,dR];simp[hx]
  simp only[World.frozen?,dR];simp
 have HSo:=zh (sort_str w'.heap.size w'.heap.size 0 ls.length ls _ J2 YR (Nat.le_refl _) YM);clear J2;go_wp2_with fail;refine HSo.out.mono ?_;rintro e w2 ⟨rfl,rQ,tE⟩;have uU:=zh tE;clear tE;go_wp2_with fail;go_ret;refine⟨_,rfl,⟨some ⟨w'.heap.size,0,none⟩,ls.length,by rw[gB];rfl,by rw[gB];exact Nat.le_refl _,YM,fun _=>⟨_,_,rfl,fun i x hx=>⟨[.string x],⟨rfl,?_⟩,rfl,fun j u hu=>?_⟩⟩⟩,(aA _ _).trans rQ⟩
 ·exact HZ.out x (lR (List.mem_of_getElem? hx))
 match j,hu with
 |0,hu=>cases hu;simpa using(uU.out i x hx).1
theorem bytes_append(a b:List UInt8):(⟨a.toArray⟩++⟨b.toArray⟩:bA)=⟨(a++b).toArray⟩:=by
 apply bytes_ext';simp
theorem wireInt_any(n:Int)(w:World)(hG:eJ w)(h0: -9223372036854775808<=n)(h1:n<=9223372036854775807):
  Calls Tryz.prog 177 #[.int .i64 n] w fun e w'=>e=.returned (.string (pN n))/\Below w.heap.size w w':=by
 have HI:=zh (Tryz.strconv_Itoa n h0 h1 w hG.pow10);clear hG;go_enter Tryz.func177,Tryz.ntmps177;go_wp2_with fail;refine HI.out.mono ?_;rintro e w1 ⟨rfl,k,os,rfl⟩;have hb:Below w.heap.size w (Sort.grow (w.drewN k) os):=Lib.below_grow _ w (Nat.le_refl _) k os;generalize Sort.grow (w.drewN k) os=w1 at hb;have hil:=Lib.itoa_length_le n h0 h1;have HW:=zh (show(⟨(Lib.itoa n).toArray⟩++⟨#[59]⟩:bA)=pN n from bytes_append (Lib.itoa n) [59]);generalize Lib.itoa n=it at hil HW;go_wp2_with fail;go_ret;exact⟨nY HW.out,hb⟩
theorem V5{p:Prop}(h:p:=by
 subst hu;have HC:=zh hc;clear hc hl;by_cases rU:u<l.length
 ·obtain⟨x,hx,-⟩:=getElem?_of_lt rU;have uP:=HC.out u x hx;have HX:=zh (show l.getD u 0=x by rw[List.getD_eq_getElem?_getD,hx];rfl);clear hx HC;go_enter Tryz.func178,Tryz.ntmps178;go_wp2_with fail;go_region
  go_wp2_with fail;go_ret;exact⟨iJ (by rw[Int.toNat_natCast,HX.out]),HE.out _,(dU.setCell w).drew⟩
 have HX:=zh (show l.getD u 0=0 by rw[List.getD_eq_getElem?_getD,List.getElem?_eq_none YM];rfl);clear HC;go_enter Tryz.func178,Tryz.ntmps178;go_wp2_with fail;go_region
 go_wp2_with fail;go_ret
 exact⟨iJ (by rw[Int.toNat_natCast,HX.out]),HE.out _,(dU.setCell w).drew⟩):p:=h
theorem XM{p:Prop}(h:p:=by
 clear hl;go_enter Tryz.func178,Tryz.ntmps178;go_wp2_with fail;go_region
 go_wp2_with fail;go_ret
 exact⟨iJ YR,HE.out _,(dU.setCell w).drew⟩):p:=h
theorem YA{p:Prop}(h:p:=by
 simp[World.setCell,Array.getElem?_modify,h]):p:=h
structure dU (b:Nat) (w w':World):Prop where
 os:w'.os=w.os
 tape:w'.tape=w.tape
 output:w'.output=w.output
 size:w.heap.size<=w'.heap.size
 block:∀k,k<w.heap.size->k≠b->w'.heap[k]? =w.heap[k]?
theorem dU.refl(b:Nat)(w:World):dU b w w:=⟨rfl,rfl,rfl,Nat.le_refl _,fun _ _ _=>rfl⟩
theorem dU.trans{b:Nat}{u v w:World}(h:dU b u v)(k:dU b v w):dU b u w:=
 ⟨k.os.trans h.os,k.tape.trans h.tape,k.output.trans h.output,Nat.le_trans h.size k.size,fun i hi rO=>(k.block i (Nat.lt_of_lt_of_le hi h.size) rO).trans (h.block i hi rO)⟩
theorem dU.of_below{b:Nat}{w w':World}(h:Below w.heap.size w w'):dU b w w':=⟨h.os,h.tape,h.output,h.size,fun k hk _=>h.block k hk⟩
theorem dU.below{b:Nat}{u w w':World}{B:Nat}(h:Below B u w)(k:dU b w w')(hb:B<=b)(hB:B<=w.heap.size):Below B u w':=
 ⟨k.os.trans h.os,k.tape.trans h.tape,k.output.trans h.output,Nat.le_trans h.size k.size,fun i hi=>(k.block i YM YM).trans (h.block i hi)⟩
theorem dU.cell{b:Nat}{w w':World}(h:dU b w w'){k o:Nat}{v:Value}(rO:k≠b)(hc:w.cell? ⟨k,o,none⟩=some v):w'.cell? ⟨k,o,none⟩=some v:=
 (World.cell?_of_block (w:=w) (h.block k (dS hc) rO)).trans hc
theorem dU.setCell{b o:Nat}{v:Value}(w:World):dU b w (w.setCell ⟨b,o,none⟩ v):=
 ⟨rfl,rfl,rfl,by simp[World.setCell],fun k _ rO=>Below.heap_setCell _ _ _ _ rO⟩
theorem dU.drew{b:Nat}{u w:World}(h:dU b u w):dU b u w.drew:=⟨h.os,h.tape,h.output,h.size,h.block⟩
theorem eJ.only{b:Nat}{w w':World}(h:eJ w)(ho:dU b w w')(hb:11<=b):eJ w':=by
 refine⟨Nat.le_trans h.big ho.size,?_,?_,?_,fun i x hx=>ho.cell YM (h.signs i x hx),fun hw i x hx=>ho.cell YM (h.words hw i x hx)⟩
 ·obtain⟨m,hm⟩:=h.maxLen;exact⟨m,ho.cell YM hm⟩
 ·exact var?_below (B:=11) (g:=5) ⟨ho.os,ho.tape,ho.output,ho.size,fun k hk=>ho.block k (by have:=h.big;omega) YM⟩ YN YM h.pow10
 exact var?_below (B:=11) (g:=1) ⟨ho.os,ho.tape,ho.output,ho.size,fun k hk=>ho.block k (by have:=h.big;omega) YM⟩ YN YM h.spc
def Sbx(w:World)(b:Nat)(saw clk ord nxt:Value)(u0 u1:Int):Prop:=
 w.heap[b]? =some (.cells #[saw,clk,ord,nxt,.int .i64 u0,.int .i64 u1] 140 (0,0))
theorem Sbx.cell{w:World}{b:Nat}{saw clk ord nxt:Value}{u0 u1:Int}(h:Sbx w b saw clk ord nxt u0 u1)(j:Nat):w.cell? ⟨b,j,none⟩=#[saw,clk,ord,nxt,.int .i64 u0,.int .i64 u1][j]? :=by
 simp[World.cell?,show w.heap[b]? =_ from h]
theorem Sbx.frozen{w:World}{b:Nat}{saw clk ord nxt:Value}{u0 u1:Int}(h:Sbx w b saw clk ord nxt u0 u1)(j:Nat):w.frozen? ⟨b,j,none⟩=false:=by
 simp[World.frozen?,show w.heap[b]? =_ from h]
theorem Sbx.lt{w:World}{b:Nat}{saw clk ord nxt:Value}{u0 u1:Int}(h:Sbx w b saw clk ord nxt u0 u1):b<w.heap.size:=dS (h.cell 0)
theorem Sbx.of_block{w w':World}{b:Nat}{saw clk ord nxt:Value}{u0 u1:Int}(h:Sbx w b saw clk ord nxt u0 u1)(hb:w'.heap[b]? =w.heap[b]?):Sbx w' b saw clk ord nxt u0 u1:=hb.trans h
theorem Sbx.later{w w':World}{b:Nat}{saw clk ord nxt:Value}{u0 u1:Int}(h:Sbx w b saw clk ord nxt u0 u1)(hb:Below w.heap.size w w'):Sbx w' b saw clk ord nxt u0 u1:=h.of_block (hb.block b h.lt)
theorem Sbx.cast{w:World}{b:Nat}{saw clk ord nxt:Value}{u0 u1 v1:Int}(h:Sbx w b saw clk ord nxt u0 u1)(e:u1=v1):Sbx w b saw clk ord nxt u0 v1:=e▸h
theorem Sbx.put0{w:World}{b:Nat}{saw clk ord nxt:Value}{u0 u1:Int}(h:Sbx w b saw clk ord nxt u0 u1)(x:Int):Sbx (w.setCell ⟨b,4,none⟩ (.int .i64 x)).drew b saw clk ord nxt x u1:=by
 unfold Sbx at h ⊢;show(w.setCell _ _).heap[b]? =_;exact YA
theorem Sbx.put1{w:World}{b:Nat}{saw clk ord nxt:Value}{u0 u1:Int}(h:Sbx w b saw clk ord nxt u0 u1)(x:Int):Sbx (w.setCell ⟨b,5,none⟩ (.int .i64 x)).drew b saw clk ord nxt u0 x:=by
 unfold Sbx at h ⊢;show(w.setCell _ _).heap[b]? =_;exact YA
theorem next0_any(b:Nat)(saw clk ord nxt:Value)(u0 u1:Int)(l:List Int)(vl:Value)(w:World)(hs:Sbx w b saw clk ord nxt u0 u1)(hl:nA w vl l)(h0:0<=u0)(h1:u0<=4611686018427387904):
  Calls Tryz.prog 178 #[.pointer (some ⟨b,0,none⟩),vl,.int .i64 0] w fun e w'=>e=.returned (.int .i64 (l.getD (u0).toNat 0))/\Sbx w' b saw clk ord nxt (u0+1) u1/\dU b w w':=by
 have c4:=hs.cell 4;have f4:=hs.frozen 4;simp only[List.getElem?_toArray,List.getElem?_cons_succ,List.getElem?_cons_zero] at c4;have HS:=zh hs;clear hs;have xI:∀x,Sbx (w.setCell ⟨b,4,none⟩ (.int .i64 x)).drew b saw clk ord nxt x u1:=fun x=>Sbx.put0 HS.out x;have HE:=zh xI;clear xI;rcases hl.cases with⟨rfl,a,c,rfl⟩|⟨bl,o,c,rfl,tU,A2,zC,NH,hc⟩
 ·exact XM
 obtain⟨u,hu⟩:∃u:Nat,u0=u:=⟨(u0).toNat,YM⟩;exact V5
theorem next1_any(b:Nat)(saw clk ord nxt:Value)(u0 u1:Int)(l:List Int)(vl:Value)(w:World)(hs:Sbx w b saw clk ord nxt u0 u1)(hl:nA w vl l)(h0:0<=u1)(h1:u1<=4611686018427387904):
  Calls Tryz.prog 178 #[.pointer (some ⟨b,0,none⟩),vl,.int .i64 1] w fun e w'=>e=.returned (.int .i64 (l.getD (u1).toNat 0))/\Sbx w' b saw clk ord nxt u0 (u1+1)/\dU b w w':=by
 have c5:=hs.cell 5;have f5:=hs.frozen 5;simp only[List.getElem?_toArray,List.getElem?_cons_succ,List.getElem?_cons_zero] at c5;have HS:=zh hs;clear hs;have xI:∀x,Sbx (w.setCell ⟨b,5,none⟩ (.int .i64 x)).drew b saw clk ord nxt u0 x:=fun x=>Sbx.put1 HS.out x;have HE:=zh xI;clear xI;rcases hl.cases with⟨rfl,a,c,rfl⟩|⟨bl,o,c,rfl,tU,A2,zC,NH,hc⟩
 ·exact XM
 obtain⟨u,hu⟩:∃u:Nat,u1=u:=⟨(u1).toNat,YM⟩;exact V5
end Go.Proofs.YtiionicikdnnpaaGreatDoor
