/- Texts of this seat, joined. -/
import Derived.OpenShut
import Derived.Test.YtacgopankhpnbaaGreatDoorTQL
set_option maxHeartbeats 2000000
set_option maxRecDepth 100000
set_option linter.unusedVariables false
set_option linter.unusedSimpArgs false
namespace Go.Proofs.YtacgopankhpnbaaGreatDoor
open Go.RowKit
theorem Y7{p:Prop}(h:p:=by
 have:=List.eq_nil_of_length_eq_zero h0;subst this
 exact⟨none,0,rfl,aAQ,aAQ,fun h=>absurd rfl h⟩):p:=h
theorem list_sorted(b:Nat)(names:List bA)(vn:Value)(w:World)(hn:Strs w vn names)(hz:names.length*16<=140737488355328):
  Calls Tryz.prog 87 #[.pointer (some ⟨b,0,none⟩),vn,.bool true] w fun e w'=>∃v,e=.returned v/\Strs w' v (fQ names)/\(∀a n c,v=.slice (some a) n c->w.heap.size<=a.block)/\Below w.heap.size w w':=by
 obtain⟨a,c,hv,-⟩:=id hn;subst hv
 have HS:Hid (∀W,Below w.heap.size w W->W.cell? ⟨w.heap.size,0,none⟩=some (.slice a names.length c)->Calls Tryz.prog 116 #[.func (.func 160) #[] #[.pointer (some ⟨w.heap.size,0,none⟩)]] W fun e w'=>∃v,e=.returned v/\OwnStrs W.heap.size w' v (fQ names)/\Below W.heap.size W w'):=
  zh fun W hb hc=>sortedSeq_any _ _ names W hc (hn.later hb) hz
 clear hn;go_enter Tryz.func87,Tryz.ntmps87;go_wp2_with fail;refine(values_any _ _ _ _).mono ?_;rintro e w1 ⟨rfl,rfl⟩;go_wp2_with fail;refine(HS.out _ (aA _ _) aAQ).mono ?_;rintro e w2 ⟨v,rfl,hO,hb⟩;obtain⟨a2,c2,QK,-⟩:=id hO.strs;subst QK;have HO:=zh hO;clear hO;go_wp2_with fail;go_ret;exact⟨_,rfl,HO.out.strs,HO.out.block aAQ,aB (aA _ _) hb⟩
theorem i64_bounds{n:Int}(h:(Lit.int .i64 n).wf=true): -9223372036854775808<=n/\n<=9223372036854775807:=by
 simp[Lit.wf,IntKind.min,IntKind.max,IntKind.signed,IntKind.bits] at h;omega
theorem tmod_cases(x:Int)(n:Nat)(h:0<n):(x.tmod n<0/\x.tmod n+n=(gU x n:Int)\/0<=x.tmod n/\x.tmod n=(gU x n:Int))/\gU x n<n:=by
 have hn:(n:Int)≠0:=aAM;have h1:=Int.emod_nonneg x hn;have h2:=Int.emod_lt_of_pos x (show(0:Int)<n by omega);have h3:=Int.tmod_eq_emod (a:=x) (b:=n);unfold gU;by_cases hc:0<=x\/(n:Int) ∣ x
 ·rw[if_pos hc] at h3;exact⟨.inr ⟨aAM,aAM⟩,aAM⟩
 rw[if_neg hc] at h3;have:((n:Int).natAbs:Int)=n:=aAM;rw[this] at h3;exact⟨.inl ⟨aAM,aAM⟩,aAM⟩
theorem pickAll_step{order:List Int}{l out:List bA}{u:Nat}{x:bA}(h:0<l.length)(hx:l[gU (order.getD (u+out.length) 0) l.length]? =some x):
  out++eT order l.length (u+out.length) l=(out++[x])++eT order (l.eraseIdx (gU (order.getD (u+out.length) 0) l.length)).length (u+(out++[x]).length) (l.eraseIdx (gU (order.getD (u+out.length) 0) l.length)):=by
 obtain⟨n,hn⟩:∃n,l.length=n+1:=⟨l.length-1,aAM⟩;have hi:=(Yb.1 hx).1;have e:(l.eraseIdx (gU (order.getD (u+out.length) 0) l.length)).length=n:=by rw[List.length_eraseIdx,if_pos hi];omega
 rw[e]
 have e2:eT order l.length (u+out.length) l=x::eT order n (u+out.length+1) (l.eraseIdx (gU (order.getD (u+out.length) 0) l.length)):=by
  conv=>lhs;arg 2;rw[hn]
  rw[eT,hx]
 rw[e2];simp[Nat.add_assoc]
def mL:Value->Nat| .slice _ n _=>n|_=>0
theorem oJ{w w':World}{b base:Nat}{e:TypeId}{size:Nat}{v:Value}{n:Nat}{xs:List Value}(h:w.ownsRow base e size v n xs)(ho:bS b w w')(hb:b<base):w'.ownsRow base e size v n xs:=
 h.kept (row:=some b) ⟨ho.os,ho.tape,ho.output,ho.size,fun k hk sC=>ho.block k hk (fun e=>sC (by rw[e]))⟩ (by
  rcases h.2 with⟨rfl,_⟩|⟨g,cap,cur,rfl,hg,_⟩
  ·exact .inl rfl
  exact .inr (by simp[Value.ownBlock];omega))
theorem ownsRow_at{w w':World}{b base g c:Nat}{e:TypeId}{size:Nat}{n:Nat}{xs:List Value}(h:w.ownsRow base e size (.slice (some ⟨g,0,none⟩) n c) n xs)(ho:bS b w w')(hb:g≠b):w'.ownsRow base e size (.slice (some ⟨g,0,none⟩) n c) n xs:=
 h.kept (row:=some b) ⟨ho.os,ho.tape,ho.output,ho.size,fun k hk sC=>ho.block k hk (fun e=>sC (by rw[e]))⟩ (.inr (by simp[Value.ownBlock];exact hb))
theorem ownsRow_form{w:World}{base:Nat}{e:TypeId}{size:Nat}{v:Value}{n:Nat}{xs:List Value}(h:w.ownsRow base e size v n xs):∃a m c,v=.slice a m c:=by
 rcases h.2 with⟨rfl,_⟩|⟨g,cap,cur,rfl,_⟩
 ·exact⟨_,_,_,rfl⟩
 exact⟨_,_,_,rfl⟩
theorem strs_of_owns{w:World}{base:Nat}{e:TypeId}{v:Value}{l:List bA}(h:w.ownsRow base e 1 v l.length (l.map Value.string))(hz:∀x,x∈l->x.size<=140737488355328):Strs w v l:=by
 rcases h.2 with⟨rfl,h0⟩|⟨g,cap,cur,rfl,hg,yY,r1,r2,r3,r4⟩
 ·exact Y7
 refine⟨_,cap,rfl,r1,r2,fun _=>⟨g,0,rfl,fun i x hx=>⟨[.string x],⟨rfl,hz x (List.mem_of_getElem? hx)⟩,rfl,fun j u hu=>?_⟩⟩⟩
 match j,hu with
 |0,hu=>
  cases hu;have:=congrArg (fun t:List Value=>t[i]?) r4;rw[Nat.mul_one,List.getElem?_take] at this;obtain⟨hi,rfl⟩:=Yb.1 hx;have h2:cur[i]? =some (.string l[i]):=by simpa[hi] using this
  simp[World.cell?,yY,h2]
theorem qL{order:List Int}{x:bA}:∀{f u:Nat}{l:List bA},x∈eT order f u l->x∈l
 |0,_,_,h=>by simp[eT] at h
 |f+1,u,l,h=>by
  rw[eT] at h;split at h
  ·simp at h
  rename_i y hy;rw[List.mem_cons] at h;rcases h with rfl|h
  ·exact List.mem_of_getElem? hy
  exact List.mem_of_mem_eraseIdx (qL h)
theorem owns_block{w:World}{base B:Nat}{e:TypeId}{size:Nat}{v:Value}{n:Nat}{xs:List Value}(h:w.ownsRow base e size v n xs)(hB:B<=base):∀a n c,v=.slice (some a) n c->B<=a.block:=by
 intro a n' c e;rcases h.2 with⟨rfl,_⟩|⟨g,cap,cur,rfl,hg,_⟩
 ·cases e
 cases e;exact Nat.le_trans hB hg
structure ListAt (w wr:World) (b:Nat) (saw clk nxt vo:Value) (u0:Int) (u:Nat) (g o c:Nat) (left out:List bA) (v8:Value):Prop where
 sbx:Sbx wr b saw clk vo nxt u0 u
 gw:w.heap.size<=g
 gl:g<wr.heap.size
 cap:left.length<=c
 max:c<=9223372036854775807
 cells:∀i x,left[i]? =some x->wr.cell? ⟨g,o+i,none⟩=some (.string x)/\wr.frozen? ⟨g,o+i,none⟩=false
 own:wr.ownsRow (g+1) 9 1 v8 out.length (out.map Value.string)
 only:bS b w wr
theorem list_picks(b:Nat)(saw clk nxt vo:Value)(u0:Int)(u:Nat)(order:List Int)(names:List bA)(vn:Value)(w:World)(hs:Sbx w b saw clk vo nxt u0 u)(ho:∀W,bS b w W->hJ W vo order)
  (hn:Strs w vn names) (hz:names.length<=1000000) (hu:u<=4611686018426387904) (hw:∀x,x∈order->(Lit.int .i64 x).wf=true):
  Calls Tryz.prog 87 #[.pointer (some ⟨b,0,none⟩),vn,.bool false] w fun e w'=>∃v,e=.returned v/\Strs w' v (eT order names.length u (fQ names))/\(∀a n c,v=.slice (some a) n c->w.heap.size<=a.block)/\
   Sbx w' b saw clk vo nxt u0 ((u+names.length:Nat):Int)/\bS b w w':=by
 obtain⟨i0,hi,tM,sY,sX⟩:=info_parts strInfo;obtain⟨a,c,hv,-⟩:=id hn;subst hv
 have HS:Hid (∀W,Below w.heap.size w W->W.cell? ⟨w.heap.size,0,none⟩=some (.slice a names.length c)->Calls Tryz.prog 116 #[.func (.func 160) #[] #[.pointer (some ⟨w.heap.size,0,none⟩)]] W fun e w'=>∃v,e=.returned v/\OwnStrs W.heap.size w' v (fQ names)/\Below W.heap.size W w'):=
  zh fun W hb hc=>sortedSeq_any _ _ names W hc (hn.later hb) aAM
 have TT:=hs.lt;have HB:=zh hs;clear hs;have HN:=zh hn;clear hn;have HW:=zh hw;clear hw;have HO:=zh ho;clear ho;go_enter Tryz.func87,Tryz.ntmps87;go_wp2_with fail;refine(values_any _ _ _ _).mono ?_;rintro e w1 ⟨rfl,rfl⟩;go_wp2_with fail;refine(HS.out _ (aA _ _) aAQ).mono ?_;rintro e w2 ⟨v,rfl,hO,hb⟩;rcases hO with⟨h0,rfl⟩|⟨g,o,c2,rfl,hg,hgl,yZ,KM,GR⟩
 ·have HE:Hid (names=[]):=zh (List.eq_nil_of_length_eq_zero (by rw[<-fM,h0];rfl));clear h0;go_wp2_with fail;go_loop [7,8] (fun l i=>l=.slice none 0 0/\i=.slice none 0 0) (fun _ i=>0)
  case atStart=>exact⟨rfl,rfl⟩
  case round=>
   obtain⟨rfl,rfl⟩:=hrel;go_wp2_with fail;go_ret;have wR:=aB (aA _ _) hb;exact⟨_,rfl,by rw[HE.out];show Strs _ _ [];exact⟨none,0,rfl,aAQ,aAQ,fun h=>absurd rfl h⟩,fun a n c e=>by simp at e,by rw[HE.out];exact HB.out.later wR,bS.of_below wR⟩
 have wR:=aB (aA _ _) hb;have hgw:w.heap.size<=g:=by simp at hg;omega
 have uQ:ListAt w w2 b saw clk nxt vo u0 u g o c2 (fQ names) [] (.slice none 0 0):=
  ⟨HB.out.later wR,hgw,hgl,yZ,KM,fun i x hx=>⟨(GR i x hx).1,(GR i x hx).2.1⟩,World.ownsRow_nil _ _ _ _,bS.of_below wR⟩
 have HL0:=zh uQ;have HSZ:=zh (fun x(hx:x∈names)=>lZ HN.out hx);clear uQ GR hb wR HS HB hg hgl yZ KM;go_wp2_with fail
 go_loopw [7,8] (fun v7 v8 wr=>∃(left out:List bA),v7=.slice (some ⟨g,o,none⟩) left.length c2/\eT order names.length u (fQ names)=out++eT order left.length (u+out.length) left/\out.length+left.length=names.length/\
  ListAt w wr b saw clk nxt vo u0 ((u+out.length:Nat)) g o c2 left out v8) (fun v7 _ _=>mL v7)
 case atStart=>exact⟨fQ names,[],rfl,by rw[fM];rfl,by rw[fM];simp,HL0.out⟩
 case round=>
  clear HL0;obtain⟨left,out,rfl,hp,hlen,hA⟩:=hrel;generalize hv8:u8=v8 at *;clear hv8;have HP:=zh hp;have vB:=zh hlen;have RP:=id hA;obtain⟨LK,hgw',hgl,yZ,KM,GR,sB,hon⟩:=hA;have HA:=zh RP;have cOrd:=LK.cell 2;simp only[List.getElem?_toArray,List.getElem?_cons_succ,List.getElem?_cons_zero] at cOrd;have HSB:=zh LK;have HCL:=zh GR;have OJ:=zh sB;have HAP:Hid (v8.ownBlock≠some g):=zh (fun e=>by have:=(OJ.out.lt g e).1;omega);clear LK GR sB hp RP;by_cases sE:0<left.length
  ·have zI:out.length+left.length<=1000000:=aAM;clear hlen
   have SV:(Lit.int .i64 (order.getD (u+out.length) 0)).wf=true:=by
    rw[List.getD_eq_getElem?_getD]
    cases hh:order[u+out.length]? with
    |none=>rfl
    |some y=>exact HW.out y (List.mem_of_getElem? hh)
   have HNX:=zh (next1_any b saw clk vo nxt u0 ((u+out.length:Nat):Int) order vo wr HSB.out (HO.out wr hon) aAM aAM);rw[Int.toNat_natCast] at HNX;generalize hX:order.getD (u+out.length) 0=X at HNX SV;have HX:=zh hX;clear hX;have yH:=i64_bounds SV;obtain⟨G2,I8⟩:=yH;go_wp2_with fail;refine HNX.out.mono ?_;rintro e w3 ⟨rfl,hsb3,MW⟩;have HSB3:=zh hsb3;clear hsb3;obtain⟨hT,hk⟩:=tmod_cases X left.length sE;generalize hK:gU X left.length=k at hT hk;have HK:=zh hK;clear hK;obtain⟨x,hx,EY⟩:=getElem?_of_lt hk;have hbg:g≠b:=aAM;have tH:w3.cell? ⟨g,o+k,none⟩=some (.string x):=MW.cell hbg (HCL.out k x hx).1;have HXX:=zh hx;clear hx EY;have HON3:=zh MW;have hs3:=MW.size;have zN:Hid (w3.ownsRow (g+1) 9 1 v8 out.length (out.map Value.string)):=zh (oJ OJ.out MW aAM);clear MW;have hle2:out.length+1<=1000000:=aAM;have GG:=zh (pickAll_step (order:=order) (l:=left) (u:=u) (out:=out) (x:=x) sE (by rw[HX.out,HK.out];exact HXX.out));rw[HX.out,HK.out] at GG;have V5:(X.tmod left.length<0/\X.tmod left.length=(k:Int)-left.length)\/(0<=X.tmod left.length/\X.tmod left.length=(k:Int)):=aAM;clear hT;rcases V5 with⟨vP,V5⟩|⟨vP,V5⟩
   all_goals
    go_wp2_with(at_builtin;refine wpList_append_own _ rfl _ _ 22 rfl (g+1) 9 i0 (.string ByteArray.empty) 1 16 Tryz.underlying22 hi tM sY sX rfl aAO _ _ _ rfl (zN.out.alloc _) ⟨w3.heap.size,0,none⟩ 1 1 [.string x] rfl rfl (cell_one_new _ _ _) aA1 aAY aAM aA0 ?_);intro v' w4 E5 sA _
    have hcl4:∀i y,left[i]? =some y->w4.cell? ⟨g,o+i,none⟩=some (.string y)/\w4.frozen? ⟨g,o+i,none⟩=false:=fun i y hy=>by
     have h1:=HCL.out i y hy
     have e1:w4.heap[g]? =wr.heap[g]? :=by
      rw[sA.block g aA0 (fun e=>HAP.out e.symm),Below.heap_alloc _ _ _ aAM];exact HON3.out.block g aAM hbg
     exact⟨(World.cell?_of_block (w:=wr) e1).trans h1.1,(World.frozen?_of_block (w:=wr) e1).trans h1.2⟩
    have HD:=zh (delete_at g o c2 left k w4 hcl4 hk yZ KM)
    have hsb4:Hid (Sbx w4 b saw clk vo nxt u0 ((u+out.length:Nat)+1:Int)):=zh (HSB3.out.of_block (by
     rw[sA.block b aA0 (fun e=>by have:=(zN.out.lt b e.symm).1;omega),Below.heap_alloc _ _ _ aAM]))
    have KD:Hid (bS b w w4):=zh (by
     have h03:=hon.trans HON3.out;refine⟨sA.os.trans h03.os,sA.tape.trans h03.tape,sA.output.trans h03.output,by have:=sA.size;have:=h03.size;simp at *;omega,fun i VH sC=>?_⟩;have hsz3:=h03.size;rw[sA.block i aA0 (fun e=>by have:=(zN.out.lt i e.symm).1;omega),Below.heap_alloc _ _ _ aAM]
     exact h03.block i VH sC)
    (have hs4:w3.heap.size+1<=w4.heap.size:=by have:=sA.size;simpa using this);obtain⟨g',cap',rfl⟩:=ownsRow_succ E5;(have hne4:g'≠g:=by have:=(E5.lt g' rfl).1;omega);have VK:g'<w4.heap.size:=(E5.lt g' rfl).2;have HOWN4:=zh E5;clear E5 sA hcl4;go_wp2_with fail;refine HD.out.mono ?_;rintro e w5 ⟨rfl,hon5,DZ⟩;have IU:=zh hon5;have HC5:=zh DZ;clear hon5 DZ;go_wp2_with fail;go_roundw
    case rel=>
     (have hlen2:(left.eraseIdx k).length=left.length-1:=by rw[List.length_eraseIdx,if_pos hk]);have hs5:=IU.out.size;refine⟨left.eraseIdx k,out++[x],rfl,HP.out.trans GG.out,by have:=vB.out;simp;omega,?_⟩;refine⟨?_,hgw',aAM,aAM,KM,HC5.out,?_,?_⟩
     ·refine(hsb4.out.of_block (IU.out.block b aAM aAM)).cast ?_;simp;omega
     ·have:=ownsRow_at HOWN4.out IU.out hne4;simpa using this
     exact⟨IU.out.os.trans KD.out.os,IU.out.tape.trans KD.out.tape,IU.out.output.trans KD.out.output,by have:=KD.out.size;omega,fun i VH sC=>(IU.out.block i (by have:=KD.out.size;omega) aAM).trans (KD.out.block i VH sC)⟩
    case measure=>simp only[mL,List.length_eraseIdx,if_pos hk];omega
  have uQ:left=[]:=List.eq_nil_of_length_eq_zero aAM;have HL:=zh uQ;subst uQ;clear sE;obtain⟨a8,n8,c8,hv8⟩:=ownsRow_form OJ.out;subst hv8;go_wp2_with fail;go_ret;have PJ:=vB.out;refine⟨_,rfl,?_,owns_block OJ.out aAM,?_,hon⟩
  ·rw[HP.out];simp only[List.length_nil,eT,List.append_nil];exact strs_of_owns OJ.out (fun y hy=>HSZ.out y (mC (qL (by rw[HP.out];simp[eT];exact hy))))
  refine HSB.out.cast ?_;simp at PJ;omega
theorem zero_int(w:World):(zeroValue 3).run Tryz.prog w=.ok (.int .i64 0) w:=aAN
noncomputable def vInt:ValC Tryz.prog 3 Int:=intVal Tryz.underlying3 zero_int
noncomputable def kInt:KeyC Tryz.prog 3 Int:=intKey Tryz.underlying3
theorem intInfo:(Tryz.prog.info? 3).map (fun i=>(i.zero,i.size,i.bytes))=some (some (.int .i64 0),1,8):=aAN
abbrev grfV(vi vs:Value)(out:bA)(bw bi:Nat):Value:=.agg #[vi,vs,.string out,.map (some bw),.map (some bi)]
abbrev cD(vi vs:Value)(out:bA)(bw bi:Nat):Obj:=.cells #[vi,vs,.string out,.map (some bw),.map (some bi)] 101
theorem known_any(vi vs:Value)(out x:bA)(bw bi nw ni:Nat)(mw:bA->Option Int)(mi:bA->Option Bool)(w:World)(hw:aX eQ vInt w bw nw mw)(hi:aX eQ dS w bi ni mi)(hx:x.size<=140737488355328):
  Calls Tryz.prog 92 #[grfV vi vs out bw bi,.string x] w fun e w'=>e=.returned (.bool ((mw x).isSome||(mi x).getD false))/\Below w.heap.size w w':=by
 have EY:x.size<=maxLen:=Nat.le_trans hx gO;have l1:(Instr.lookup 98 (.map (some bw)) (.string x) true).run Tryz.prog (w.alloc (cD vi vs out bw bi))=.ok (.tuple #[.int .i64 ((mw x).getD 0),.bool (mw x).isSome]) (w.alloc (cD vi vs out bw bi)):=(hw.alloc (cD vi vs out bw bi)).look2 Tryz.underlying98 EY;have l2:(Instr.lookup 99 (.map (some bi)) (.string x) false).run Tryz.prog (w.alloc (cD vi vs out bw bi))=.ok (.bool ((mi x).getD false)) (w.alloc (cD vi vs out bw bi)):=(hi.alloc (cD vi vs out bw bi)).look Tryz.underlying99 EY;clear hw hi EY;generalize (mw x).getD 0=a at l1
 cases hs:(mw x).isSome with
 |true=>
  rw[hs] at l1;clear hs;go_enter Tryz.func92,Tryz.ntmps92;exact ZI
 |false=>
  rw[hs] at l1;clear hs;generalize (mi x).getD false=q at l2;go_enter Tryz.func92,Tryz.ntmps92;exact ZI
theorem inspect1_any(y:Value×Stp)(w:World)(hs:Strs w y.1 y.2.src)(ho:y.2.out.size<=140737488355328):
  Calls Tryz.prog 91 #[stepV y] w fun e w'=>e=.returned (.bool (!aM y.2))/\Below w.heap.size w w':=by
 have HR:=zh (jT y.2 y.1 (w.alloc (oBx26 y.2.kind y.1 y.2.out y.2.sorted)) (hs.later (aA _ _)) ho);obtain⟨v,kind,src,out,sorted⟩:=y;generalize aM ⟨kind,src,out,sorted⟩=r at HR ⊢;clear hs;go_enter Tryz.func91,Tryz.ntmps91;go_wp2_with fail;refine HR.out.mono ?_;rintro e w' ⟨rfl,hb⟩;go_wp2_with fail;go_ret;exact⟨rfl,aB (aA _ _) hb⟩
theorem box5{w:World}{k:Nat}{a b c d e:Value}{t:TypeId}{fr:Nat×Nat}(h:w.heap[k]? =some (.cells #[a,b,c,d,e] t fr)):
  w.cell? ⟨k,0,none⟩=some a/\w.cell? ⟨k,1,none⟩=some b/\w.cell? ⟨k,2,none⟩=some c/\w.cell? ⟨k,3,none⟩=some d/\w.cell? ⟨k,4,none⟩=some e:=by
 simp only[World.cell?,h];simp
theorem inspect2_any(vi vs:Value)(out x:bA)(g bw bi nw ni:Nat)(mw:bA->Option Int)(mi:bA->Option Bool)(w:World)(hg:w.heap[g]? =some (cD vi vs out bw bi))(hw:aX eQ vInt w bw nw mw)(hi:aX eQ dS w bi ni mi)(hx:x.size<=140737488355328):
  Calls Tryz.prog 93 #[.string x,.pointer (some ⟨g,0,none⟩)] w fun e w'=>e=.returned (.bool (!((mw x).isSome||(mi x).getD false)))/\Below w.heap.size w w':=by
 have HK:=zh (known_any vi vs out x bw bi nw ni mw mi w hw hi hx);obtain⟨c0,c1,c2,c3,c4⟩:=box5 hg;generalize ((mw x).isSome||(mi x).getD false)=r at HK ⊢;clear hg hw hi;go_enter Tryz.func93,Tryz.ntmps93;go_wp2_with fail;refine HK.out.mono ?_;rintro e w' ⟨rfl,hb⟩;go_wp2_with fail;go_ret;exact⟨rfl,hb⟩
theorem enters_inspect1(args:Array Value)(w:World):(callFunc 91 args).run Tryz.prog w=.ok (.enter 91 args) w:=aAN
theorem enters_inspect2(args:Array Value)(w:World):(callFunc 93 args).run Tryz.prog w=.ok (.enter 93 args) w:=aAN
theorem enters_inspect3(args:Array Value)(w:World):(callFunc 94 args).run Tryz.prog w=.ok (.enter 94 args) w:=aAN
structure Insp (vi vs:Value) (out:bA) (g u bw bi nw ni:Nat) (mw:bA->Option Int) (mi:bA->Option Bool) (w:World):Prop where
 box:w.heap[g]? =some (cD vi vs out bw bi)
 fn:w.heap[u]? =some (.cells #[.func (.func 93) #[] #[.pointer (some ⟨g,0,none⟩)]] 92)
 wr:aX eQ vInt w bw nw mw
 inp:aX eQ dS w bi ni mi
theorem Insp.later{vi vs:Value}{out:bA}{g u bw bi nw ni:Nat}{mw:bA->Option Int}{mi:bA->Option Bool}{w w':World}(h:Insp vi vs out g u bw bi nw ni mw mi w)(hb:Below w.heap.size w w'):Insp vi vs out g u bw bi nw ni mw mi w':=
 ⟨(hb.block _ (Array.getElem?_eq_some_iff.1 h.box).1).trans h.box,(hb.block _ (Array.getElem?_eq_some_iff.1 h.fn).1).trans h.fn,h.wr.later hb,h.inp.later hb⟩
theorem box1{w:World}{k:Nat}{a:Value}{t:TypeId}{fr:Nat×Nat}(h:w.heap[k]? =some (.cells #[a] t fr)):w.cell? ⟨k,0,none⟩=some a:=by
 simp only[World.cell?,h];simp
theorem inspect3_any(y:Value×Stp)(vi vs:Value)(out:bA)(g u bw bi nw ni:Nat)(mw:bA->Option Int)(mi:bA->Option Bool)(w:World)(h:Insp vi vs out g u bw bi nw ni mw mi w)(hs:Strs w y.1 y.2.src):
  Calls Tryz.prog 94 #[stepV y,.pointer (some ⟨u,0,none⟩)] w fun e w'=>e=.returned (.bool (y.2.src.any fun x=> !((mw x).isSome||(mi x).getD false)))/\Below w.heap.size w w':=by
 have sE:=(Array.getElem?_eq_some_iff.1 h.fn).1;have hu:=box1 h.fn;obtain⟨v,kind,src,o,sorted⟩:=y
 have HC:=zh (rU 93 #[.pointer (some ⟨g,0,none⟩)] (fun x=> !((mw x).isSome||(mi x).getD false)) src v (w.alloc (oBx26 kind v o sorted)) (hs.later (aA _ _)) enters_inspect2
  (fun x hx W hb=>inspect2_any vi vs out x g bw bi nw ni mw mi W ((h.later (aA _ _)).later hb).box ((h.later (aA _ _)).later hb).wr ((h.later (aA _ _)).later hb).inp (lZ hs hx)))
 generalize (src.any fun x=> !((mw x).isSome||(mi x).getD false))=r at HC ⊢;clear hs h;go_enter Tryz.func94,Tryz.ntmps94;go_wp2_with fail;refine HC.out.mono ?_;rintro e w' ⟨rfl,hb⟩;go_wp2_with fail;go_ret;exact⟨rfl,aB (aA _ _) hb⟩
theorem YT{p:Prop}(h:p:=by
 refine⟨hg.os.trans wR.os,hg.tape.trans wR.tape,hg.output.trans wR.output,by have:=wR.size;omega,fun j hj=>?_⟩;have:=wR.size;rw[hg.block j aA0 (fun e=>by have:=(h.own.lt j e.symm).1;omega),Below.heap_alloc _ _ _ aAM]
 exact wR.block j hj):p:=h
theorem aAI{p:Prop}(h:p:=by
 go_wp2_with fail;go_roundw;case rel=>exact⟨k+1,aAM,aAV,tN⟩
 case measure=>simp[intOf];omega):p:=h
def lP(steps:List Stp)(x:bA):Option Int:=(aK steps x).map Int.ofNat
abbrev aU(l:List Nat):List Int:=l.map Int.ofNat
theorem ints_of_owns{w:World}{base:Nat}{e:TypeId}{v:Value}{l:List Int}(h:w.ownsRow base e 1 v l.length (l.map (Value.int .i64))):hJ w v l:=by
 rcases h.2 with⟨rfl,h0⟩|⟨g,cap,cur,rfl,hg,yY,r1,r2,r3,r4⟩
 ·exact Y7
 refine⟨_,cap,rfl,r1,r2,fun _=>⟨g,0,rfl,fun i x hx=>⟨[.int .i64 x],rfl,rfl,fun j u hu=>?_⟩⟩⟩
 match j,hu with
 |0,hu=>
  cases hu;have:=congrArg (fun t:List Value=>t[i]?) r4;rw[Nat.mul_one,List.getElem?_take] at this;obtain⟨hi,rfl⟩:=Yb.1 hx;have h2:cur[i]? =some (.int .i64 l[i]):=by simpa[hi] using this
  simp[World.cell?,yY,h2]
structure kO (steps:List Stp) (src:List bA) (W0:World) (k:Nat) (v:Value) (wr:World):Prop where
 own:wr.ownsRow W0.heap.size 3 1 v (fD steps ⟨0,src.take k,ByteArray.empty,false⟩).length ((aU (fD steps ⟨0,src.take k,ByteArray.empty,false⟩)).map (Value.int .i64))
 below:Below W0.heap.size W0 wr
theorem needs_snoc{steps:List Stp}{src:List bA}{k:Nat}{x:bA}(hx:src[k]? =some x):
  fD steps ⟨0,src.take (k+1),ByteArray.empty,false⟩=fD steps ⟨0,src.take k,ByteArray.empty,false⟩++(aK steps x).toList:=by
 obtain⟨hk,rfl⟩:=Yb.1 hx;unfold fD;simp only;rw[List.take_succ_eq_append_getElem hk,List.filterMap_append];congr 1
theorem needs_len(steps:List Stp)(src:List bA)(k:Nat):(fD steps ⟨0,src.take k,ByteArray.empty,false⟩).length<=src.length:=by
 unfold fD;refine Nat.le_trans (List.length_filterMap_le _ _) ?_;simp only[List.length_take];omega
theorem kO.added{steps:List Stp}{src:List bA}{W0 wr w3:World}{k j:Nat}{v v':Value}{x:bA}{o:Obj}(h:kO steps src W0 k v wr)(hx:src[k]? =some x)(hj:aK steps x=some j)
  (sB:w3.ownsRow W0.heap.size 3 1 v' ((fD steps ⟨0,src.take k,ByteArray.empty,false⟩).length+1) ((aU (fD steps ⟨0,src.take k,ByteArray.empty,false⟩)).map (Value.int .i64)++[.int .i64 j])) (hg:(wr.alloc o).grownBy w3 v.ownBlock):kO steps src W0 (k+1) v' w3:=by
 have e:=needs_snoc (steps:=steps) hx;rw[hj] at e;have hz:wr.heap.size+1<=w3.heap.size:=aBJ;have wR:=h.below;refine⟨?_,?_⟩
 ·rw[e];simpa[aU] using sB
 exact YT
theorem kO.kept{steps:List Stp}{src:List bA}{W0 wr:World}{k:Nat}{v:Value}{x:bA}(h:kO steps src W0 k v wr)(hx:src[k]? =some x)(hj:aK steps x=none):kO steps src W0 (k+1) v wr:=by
 have e:=needs_snoc (steps:=steps) hx;rw[hj,Option.toList_none,List.append_nil] at e;exact⟨by rw[e];exact h.own,h.below⟩
def gI(l:List Nat)(w:World)(e:Ending)(w':World):Prop:=∃v,e=.returned v/\hJ w' v (aU l)/\(∀a n c,v=.slice (some a) n c->w.heap.size<=a.block)/\Below w.heap.size w w'
theorem kO.post{steps:List Stp}{s:Stp}{w w':World}{o:Obj}{v:Value}(h:kO steps s.src (w.alloc o) s.src.length v w'):gI (fD steps s) w (.returned v) w':=by
 obtain⟨h1,h2⟩:=h;rw[List.take_length] at h1;have e:fD steps ⟨0,s.src,ByteArray.empty,false⟩=fD steps s:=rfl;rw[e] at h1;refine⟨v,rfl,ints_of_owns (by simpa[aU] using h1),fun a n c e=>?_,?_⟩
 ·subst e;have:=(h1.lt a.block rfl).1;simp at this;omega
 exact(aA w o).trans (h2.mono aAQ)
theorem needs_any(steps:List Stp)(vi vs:Value)(out:bA)(bw bi n:Nat)(L:List (Value×Stp))(i:Nat)(y:Value×Stp)(w:World)(hS:pZ w vs L)(hy:L[i]? =some y)(hM:aX eQ vInt w bw n (lP steps))(hlen:y.2.src.length<=1000000):
  Calls Tryz.prog 67 #[grfV vi vs out bw bi,.int .i64 i] w (gI (fD steps y.2) w):=by
 rcases hS.cases with⟨rfl,-⟩|⟨b,o,c,rfl,h0,h1,h2,hb,hc⟩
 ·simp at hy
 have hi:i<L.length:=(Yb.1 hy).1;obtain⟨-,c1,-,-,hs,-⟩:=hc i y hy;obtain⟨i0,vA,tM,sY,sX⟩:=info_parts intInfo;obtain⟨v,kind,src,o1,sorted⟩:=y;simp only at hs c1 hlen;have HM:=zh hM;have HS:=zh hs;clear hS hy hc hM;rcases hs.cases with⟨rfl,a,ca,rfl⟩|⟨bs,os,cs,rfl,hp,hp1,hp2,hbs,wC⟩
 ·clear hs HS HM;go_enter Tryz.func67,Tryz.ntmps67;go_wp2_with fail;go_loop [5,18] (fun v i=>v=.slice none 0 0/\i=.int .i64 0) (fun _ i=>0)
  case atStart=>exact⟨rfl,rfl⟩
  case round=>
   obtain⟨rfl,rfl⟩:=hrel;go_wp2_with fail;go_ret;exact kO.post (s:=⟨kind,[],o1,sorted⟩) ⟨by simpa[fD] using World.ownsRow_nil _ _ _ _,Below.refl _ _⟩
 clear hs HS;have HC:=zh wC;clear wC;go_enter Tryz.func67,Tryz.ntmps67;go_wp2_with fail;go_loopw [5,18] (fun v i wr=>∃k:Nat,k<=src.length/\i=.int .i64 k/\Hid (kO steps src (w.alloc (cD vi (.slice (some ⟨b,o,none⟩) L.length c) out bw bi)) k v wr)) (fun _ i _=>src.length-(intOf i).toNat)
 case atStart=>exact⟨0,Nat.zero_le _,rfl,zh ⟨by simpa[fD] using World.ownsRow_nil _ _ _ _,Below.refl _ _⟩⟩
 case round=>
  obtain⟨k,hk,rfl,HR⟩:=hrel;rename World=>wr
  rename Value=>vo
  by_cases sE:k<src.length
  ·obtain⟨x,hx,EY⟩:=getElem?_of_lt sE;obtain⟨LQ,hxs⟩:=HC.out k x hx;have FH:wr.cell? ⟨bs,os+k,none⟩=some (.string x):=aC HR.out.below (aC (aA _ _) LQ);have IA:=(HR.out.below.block w.heap.size aAQ).trans (aH w _);obtain⟨-,-,-,b3,-⟩:=box5 IA;have HX:=zh hx;(have NN:w.heap.size+1<=wr.heap.size:=by have:=HR.out.below.size;simpa using this);have hnl:=needs_len steps src k;have hl:=((HM.out.alloc (cD vi (.slice (some ⟨b,o,none⟩) L.length c) out bw bi)).later HR.out.below).look2 Tryz.underlying98 (x:=x) (Nat.le_trans hxs gO);clear hx EY LQ IA
   cases hj:aK steps x with
   |none=>
    have hl':(Instr.lookup 98 (.map (some bw)) (.string x) true).run Tryz.prog wr=.ok (.tuple #[.int .i64 0,.bool false]) wr:=by
     rw[show lP steps x=none by unfold lP;rw[hj];rfl] at hl;exact hl
    have HJ:=zh hj;clear hl hj;go_wp2_with fail;go_roundw;(case rel=>exact⟨k+1,aAM,aAV,zh (HR.out.kept HX.out HJ.out)⟩);case measure=>simp[intOf];omega
   |some j=>
    have hl':(Instr.lookup 98 (.map (some bw)) (.string x) true).run Tryz.prog wr=.ok (.tuple #[.int .i64 j,.bool true]) wr:=by
     rw[show lP steps x=some (j:Int) by unfold lP;rw[hj];rfl] at hl;exact hl
    have HJ:=zh hj;clear hl hj;go_wp2_with(at_builtin;refine wpList_append_own _ rfl _ _ 26 rfl (w.alloc (cD vi (.slice (some ⟨b,o,none⟩) L.length c) out bw bi)).heap.size 3 i0 (.int .i64 0) 1 8 Tryz.underlying26 vA tM sY sX rfl aAO _ _ _ rfl (HR.out.own.alloc _) ⟨wr.heap.size,0,none⟩ 1 1 [.int .i64 j] rfl rfl (cell_one_new _ _ _) aA1 aAY aAM aA0 ?_);intro v' w3 sB sA _;have tN:=zh (HR.out.added HX.out HJ.out aBS sA);clear sB sA;exact aAI
  obtain rfl:k=src.length:=aAM;go_wp2_with fail;go_ret;exact kO.post (s:=⟨kind,src,o1,sorted⟩) HR.out
def dG(w:World)(b:Nat):Prop:=∃es c,w.heap[b]? =some (.map es c)
theorem dG.of{P:Program}{kt et:TypeId}{κ ν:Type}{K:KeyC P kt κ}{V:ValC P et ν}{w:World}{b n:Nat}{m:κ->Option ν}(h:aX K V w b n m):dG w b:=by
 obtain⟨D,⟨es,clock,h1,-⟩,-⟩:=h;exact⟨es,clock,h1⟩
theorem dG.ne{w:World}{b k o:Nat}{v:Value}(h:dG w b)(hc:w.cell? ⟨k,o,none⟩=some v):k≠b:=by
 rintro rfl;obtain⟨es,c,h1⟩:=h;simp[World.cell?,h1] at hc
theorem dG.cell{w w':World}{b k o:Nat}{v:Value}(h:dG w b)(ho:bS b w w')(hc:w.cell? ⟨k,o,none⟩=some v):w'.cell? ⟨k,o,none⟩=some v:=ho.cell (h.ne hc) hc
theorem dG.box{w w':World}{b k:Nat}{cs:Array Value}{t:TypeId}{fr:Nat×Nat}(h:dG w b)(ho:bS b w w')(hc:w.heap[k]? =some (.cells cs t fr)):w'.heap[k]? =some (.cells cs t fr):=by
 obtain⟨es,c,h1⟩:=h;have sC:k≠b:=by rintro rfl;rw[h1] at hc;cases hc
 exact(ho.block k (Array.getElem?_eq_some_iff.1 hc).1 sC).trans hc
theorem Row.onlyMap{α:Type}{k:Nat}{enc:World->α->List Value->Prop}{w w':World}{v:Value}{l:List α}{b:Nat}(hm:dG w b)(ho:bS b w w')
  (he:∀x cs,enc w x cs->enc w' x cs) (h:Row k enc w v l):Row k enc w' v l:=by
 obtain⟨a,c,hv,h1,h2,h3⟩:=h;refine⟨a,c,hv,h1,h2,fun sC=>?_⟩;obtain⟨b,o,ha,hc⟩:=h3 sC;refine⟨b,o,ha,fun i x hx=>?_⟩;obtain⟨cs,e,hl,hj⟩:=hc i x hx;exact⟨cs,he x cs e,hl,fun j u hu=>hm.cell ho (hj j u hu)⟩
theorem hJ.onlyMap{w w':World}{v:Value}{l:List Int}{b:Nat}(hm:dG w b)(ho:bS b w w')(h:hJ w v l):hJ w' v l:=Row.onlyMap hm ho (fun _ _ h=>h) h
theorem Strs.onlyMap{w w':World}{v:Value}{l:List bA}{b:Nat}(hm:dG w b)(ho:bS b w w')(h:Strs w v l):Strs w' v l:=Row.onlyMap hm ho (fun _ _ h=>h) h
theorem jZ.onlyMap{w w':World}{v:Value}{l:List Fil}{b:Nat}(hm:dG w b)(ho:bS b w w')(h:jZ w v l):jZ w' v l:=Row.onlyMap hm ho (fun _ _ h=>h) h
theorem pZ.onlyMap{w w':World}{v:Value}{l:List (Value×Stp)}{b:Nat}(hm:dG w b)(ho:bS b w w')(h:pZ w v l):pZ w' v l:=Row.onlyMap hm ho (fun _ _ h=>⟨h.1,h.2.1.onlyMap hm ho,h.2.2⟩) h
theorem iJ{b:Nat}{w w':World}(h:w.grownBy w' (some b)):bS b w w':=⟨h.os,h.tape,h.output,h.size,fun k hk sC=>h.block k hk (fun e=>sC (by cases e;rfl))⟩
structure Steady {σ:Type} (g:FuncId) (cap:Array Value) (f:σ->Nat->σ×Bool) (l:List Nat) (v:Value) (Inv:World->σ->Prop):Prop where
 ints:∀W s,Inv W s->hJ W v (aU l)
 enters:∀args w,(callFunc g args).run Tryz.prog w=.ok (.enter g args) w
 calls:∀x,x∈l->∀W s,Inv W s->Calls Tryz.prog g (#[.int .i64 (x:Int)]++cap) W fun e W'=>e=.returned (.bool (f s x).2)/\Inv W' (f s x).1
theorem anyV_at{σ:Type}{f:σ->Nat->σ×Bool}{l:List Nat}{k x:Nat}(s:σ)(hx:l[k]? =some x):lS f s (l.drop k)=if(f s x).2 then((f s x).1,true) else lS f (f s x).1 (l.drop (k+1)):=by
 obtain⟨hk,rfl⟩:=Yb.1 hx;rw[List.drop_eq_getElem_cons hk,lS]
def FoundPost{σ:Type}(r:σ×Bool)(Inv:World->σ->Prop)(e:Ending)(w':World):Prop:=∃k:Int,e=.returned (.int .i64 k)/\decide (0<=k)=r.2/\Inv w' r.1
theorem indexFunc_int{σ:Type}(g:FuncId)(cap:Array Value)(f:σ->Nat->σ×Bool)(l:List Nat)(v:Value)(Inv:World->σ->Prop)(w:World)(s0:σ)(h0:Inv w s0)(H:Steady g cap f l v Inv):
  Calls Tryz.prog 89 #[v,.func (.func g) #[] cap] w (FoundPost (lS f s0 l) Inv):=by
 have hv:=H.ints w s0 h0;have eg:=H.enters;obtain⟨a,c,KA,yQ,zR,-⟩:=id hv;rw[show(aU l).length=l.length by simp] at KA yQ;have JH:l.length<=9223372036854775807:=aAM;clear yQ zR;have HH:=zh H;clear H;have H0:=zh h0;clear h0 hv;subst KA;go_enter Tryz.func89,Tryz.ntmps89;go_wp2_with fail;go_loopw [8] (fun i wr=>∃(k:Nat)(s:σ),k<=l.length/\i=.int .i64 k/\Hid (lS f s0 l=lS f s (l.drop k))/\Hid (Inv wr s)) (fun i _=>l.length-(intOf i).toNat)
 case atStart=>exact⟨0,s0,Nat.zero_le _,rfl,zh rfl,H0⟩
 case round=>
  obtain⟨k,s,hk,rfl,HE,HI⟩:=hrel;rename World=>wr
  by_cases sE:k<l.length
  ·obtain⟨x,hx,I7⟩:=getElem?_of_lt sE;rcases(HH.out.ints wr s HI.out).cases with⟨e,-⟩|⟨b,o,c',e,-,-,-,-,hc⟩
   ·rw[aU,List.map_eq_nil_iff] at e;subst e;simp at sE
   obtain⟨rfl,-,-⟩:a=some ⟨b,o,none⟩/\True/\True:=by
    injection e with e1 e2 e3;exact⟨e1,trivial,trivial⟩
   have tH:wr.cell? ⟨b,o+k,none⟩=some (.int .i64 x):=hc k x (by simp[aU,hx]);have HA:=zh (anyV_at (f:=f) s hx);have tA:=zh (HH.out.calls _ I7 _ _ HI.out);clear hx I7 hc e
   cases hq:(f s x).2 with
   |true=>
    rw[hq] at tA HA;clear hq;go_wp2_with(go_at_fn g;refine(tA.out).mono ?_;rintro e w' ⟨rfl,tO⟩);go_ret;exact⟨k,rfl,by rw[HE.out,HA.out];simp,by rw[HE.out,HA.out];exact tO⟩
   |false=>
    rw[hq] at tA HA;clear hq;go_wp2_with(go_at_fn g;refine(tA.out).mono ?_;rintro e w' ⟨rfl,tO⟩);go_roundw;(case rel=>exact⟨k+1,(f s x).1,aAM,aAV,zh (by rw[HE.out,HA.out];rfl),zh tO⟩);case measure=>simp[intOf];omega
  have HD:=zh (show l.drop k=[] from List.drop_eq_nil_of_le aAM);go_wp2_with fail;go_ret;exact⟨-1,rfl,by rw[HE.out,HD.out];rfl,by rw[HE.out,HD.out];exact HI.out⟩
theorem rV{σ:Type}(g:FuncId)(cap:Array Value)(f:σ->Nat->σ×Bool)(l:List Nat)(v:Value)(Inv:World->σ->Prop)(w:World)(s0:σ)(h0:Inv w s0)(H:Steady g cap f l v Inv):
  Calls Tryz.prog 61 #[v,.func (.func g) #[] cap] w fun e w'=>e=.returned (.bool (lS f s0 l).2)/\Inv w' (lS f s0 l).1:=by
 have h:=zh (indexFunc_int g cap f l v Inv w s0 h0 H);clear H h0;generalize lS f s0 l=r at h ⊢;go_enter Tryz.func61,Tryz.ntmps61;go_wp2_with fail;refine h.out.mono ?_;rintro e w' ⟨k,rfl,hk,hI⟩;have HK:=zh hk;have HI:=zh hI;clear hk hI;go_wp2_with fail;go_ret;exact⟨aF HK.out,HI.out⟩
end Go.Proofs.YtacgopankhpnbaaGreatDoor
