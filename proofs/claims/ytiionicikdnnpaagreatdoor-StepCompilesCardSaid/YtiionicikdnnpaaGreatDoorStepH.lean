/- Texts of this seat, joined. -/
import Derived.Test.YtiionicikdnnpaaGreatDoorCO
import Derived.OpenShut
set_option maxHeartbeats 2000000
set_option maxRecDepth 100000
set_option linter.unusedVariables false
set_option linter.unusedSimpArgs false
namespace Go.Proofs.YtiionicikdnnpaaGreatDoor
open Go.RowKit
theorem YH{p:Prop}(h:p:=by
 have:=List.eq_nil_of_length_eq_zero h0;subst this
 exact⟨none,0,rfl,YR,YR,fun h=>absurd rfl h⟩):p:=h
theorem list_sorted(b:Nat)(names:List bA)(vn:Value)(w:World)(hn:Strs w vn names)(hz:names.length*16<=140737488355328):
  Calls Tryz.prog 181 #[.pointer (some ⟨b,0,none⟩),vn,.bool true] w fun e w'=>∃v,e=.returned v/\Strs w' v (gA names)/\(∀a n c,v=.slice (some a) n c->w.heap.size<=a.block)/\Below w.heap.size w w':=by
 obtain⟨a,c,hv,-⟩:=id hn;subst hv
 have HS:Hid (∀W,Below w.heap.size w W->W.cell? ⟨w.heap.size,0,none⟩=some (.slice a names.length c)->Calls Tryz.prog 216 #[.func (.func 246) #[] #[.pointer (some ⟨w.heap.size,0,none⟩)]] W fun e w'=>∃v,e=.returned v/\OwnStrs W.heap.size w' v (gA names)/\Below W.heap.size W w'):=
  zh fun W hb hc=>sortedSeq_any _ _ names W hc (hn.later hb) hz
 clear hn;go_enter Tryz.func181,Tryz.ntmps181;go_wp2_with fail;refine(values_any _ _ _ _).mono ?_;rintro e w1 ⟨rfl,rfl⟩;go_wp2_with fail;refine(HS.out _ (aA _ _) YR).mono ?_;rintro e w2 ⟨v,rfl,hO,hb⟩;obtain⟨a2,c2,wW,-⟩:=id hO.strs;subst wW;have HO:=zh hO;clear hO;go_wp2_with fail;go_ret;exact⟨_,rfl,HO.out.strs,HO.out.block YR,aC (aA _ _) hb⟩
theorem i64_bounds{n:Int}(h:(Lit.int .i64 n).wf=true): -9223372036854775808<=n/\n<=9223372036854775807:=by
 simp[Lit.wf,IntKind.min,IntKind.max,IntKind.signed,IntKind.bits] at h;omega
theorem tmod_cases(x:Int)(n:Nat)(h:0<n):(x.tmod n<0/\x.tmod n+n=(kW x n:Int)\/0<=x.tmod n/\x.tmod n=(kW x n:Int))/\kW x n<n:=by
 have hn:(n:Int)≠0:=YM;have h1:=Int.emod_nonneg x hn;have h2:=Int.emod_lt_of_pos x (show(0:Int)<n by omega);have h3:=Int.tmod_eq_emod (a:=x) (b:=n);unfold kW;by_cases hc:0<=x\/(n:Int) ∣ x
 ·rw[if_pos hc] at h3;exact⟨.inr ⟨YM,YM⟩,YM⟩
 rw[if_neg hc] at h3;have:((n:Int).natAbs:Int)=n:=YM;rw[this] at h3;exact⟨.inl ⟨YM,YM⟩,YM⟩
theorem pickAll_step{order:List Int}{l out:List bA}{u:Nat}{x:bA}(h:0<l.length)(hx:l[kW (order.getD (u+out.length) 0) l.length]? =some x):
  out++fH order l.length (u+out.length) l=(out++[x])++fH order (l.eraseIdx (kW (order.getD (u+out.length) 0) l.length)).length (u+(out++[x]).length) (l.eraseIdx (kW (order.getD (u+out.length) 0) l.length)):=by
 obtain⟨n,hn⟩:∃n,l.length=n+1:=⟨l.length-1,YM⟩;have hi:=(Yb.1 hx).1;have e:(l.eraseIdx (kW (order.getD (u+out.length) 0) l.length)).length=n:=by rw[List.length_eraseIdx,if_pos hi];omega
 rw[e]
 have e2:fH order l.length (u+out.length) l=x::fH order n (u+out.length+1) (l.eraseIdx (kW (order.getD (u+out.length) 0) l.length)):=by
  conv=>lhs;arg 2;rw[hn]
  rw[fH,hx]
 rw[e2];simp[Nat.add_assoc]
def sliceLen:Value->Nat| .slice _ n _=>n|_=>0
theorem ownsRow_only{w w':World}{b base:Nat}{e:TypeId}{size:Nat}{v:Value}{n:Nat}{xs:List Value}(h:w.ownsRow base e size v n xs)(ho:dU b w w')(hb:b<base):w'.ownsRow base e size v n xs:=
 h.kept (row:=some b) ⟨ho.os,ho.tape,ho.output,ho.size,fun k hk rO=>ho.block k hk (fun e=>rO (by rw[e]))⟩ (by
  rcases h.2 with⟨rfl,_⟩|⟨g,cap,cur,rfl,hg,_⟩
  ·exact .inl rfl
  exact .inr (by simp[Value.ownBlock];omega))
theorem ownsRow_at{w w':World}{b base g c:Nat}{e:TypeId}{size:Nat}{n:Nat}{xs:List Value}(h:w.ownsRow base e size (.slice (some ⟨g,0,none⟩) n c) n xs)(ho:dU b w w')(hb:g≠b):w'.ownsRow base e size (.slice (some ⟨g,0,none⟩) n c) n xs:=
 h.kept (row:=some b) ⟨ho.os,ho.tape,ho.output,ho.size,fun k hk rO=>ho.block k hk (fun e=>rO (by rw[e]))⟩ (.inr (by simp[Value.ownBlock];exact hb))
theorem ownsRow_form{w:World}{base:Nat}{e:TypeId}{size:Nat}{v:Value}{n:Nat}{xs:List Value}(h:w.ownsRow base e size v n xs):∃a m c,v=.slice a m c:=by
 rcases h.2 with⟨rfl,_⟩|⟨g,cap,cur,rfl,_⟩
 ·exact⟨_,_,_,rfl⟩
 exact⟨_,_,_,rfl⟩
theorem strs_of_owns{w:World}{base:Nat}{e:TypeId}{v:Value}{l:List bA}(h:w.ownsRow base e 1 v l.length (l.map Value.string))(hz:∀x,x∈l->x.size<=140737488355328):Strs w v l:=by
 rcases h.2 with⟨rfl,h0⟩|⟨g,cap,cur,rfl,hg,FE,r1,r2,r3,r4⟩
 ·exact YH
 refine⟨_,cap,rfl,r1,r2,fun _=>⟨g,0,rfl,fun i x hx=>⟨[.string x],⟨rfl,hz x (List.mem_of_getElem? hx)⟩,rfl,fun j u hu=>?_⟩⟩⟩
 match j,hu with
 |0,hu=>
  cases hu;have:=congrArg (fun t:List Value=>t[i]?) r4;rw[Nat.mul_one,List.getElem?_take] at this;obtain⟨hi,rfl⟩:=Yb.1 hx;have h2:cur[i]? =some (.string l[i]):=by simpa[hi] using this
  simp[World.cell?,FE,h2]
theorem pQ{order:List Int}{x:bA}:∀{f u:Nat}{l:List bA},x∈fH order f u l->x∈l
 |0,_,_,h=>by simp[fH] at h
 |f+1,u,l,h=>by
  rw[fH] at h;split at h
  ·simp at h
  rename_i y hy;rw[List.mem_cons] at h;rcases h with rfl|h
  ·exact List.mem_of_getElem? hy
  exact List.mem_of_mem_eraseIdx (pQ h)
theorem owns_block{w:World}{base B:Nat}{e:TypeId}{size:Nat}{v:Value}{n:Nat}{xs:List Value}(h:w.ownsRow base e size v n xs)(hB:B<=base):∀a n c,v=.slice (some a) n c->B<=a.block:=by
 intro a n' c e;rcases h.2 with⟨rfl,_⟩|⟨g,cap,cur,rfl,hg,_⟩
 ·cases e
 cases e;exact Nat.le_trans hB hg
structure ListAt (w wr:World) (b:Nat) (saw clk nxt vo:Value) (u0:Int) (u:Nat) (g o c:Nat) (left out:List bA) (v8:Value):Prop where
 sbx:Sbx wr b saw clk vo nxt u0 u
 gw:w.heap.size<=g
 gl:g<wr.heap.size
 cap:left.length<=c
 max:c<=9223372036854775807
 cells:∀i x,left[i]? =some x->wr.cell? ⟨g,o+i,none⟩=some (.string x)/\wr.frozen? ⟨g,o+i,none⟩=false
 own:wr.ownsRow (g+1) 9 1 v8 out.length (out.map Value.string)
 only:dU b w wr
theorem list_picks(b:Nat)(saw clk nxt vo:Value)(u0:Int)(u:Nat)(order:List Int)(names:List bA)(vn:Value)(w:World)(hs:Sbx w b saw clk vo nxt u0 u)(ho:∀W,dU b w W->nA W vo order)
  (hn:Strs w vn names) (hz:names.length<=1000000) (hu:u<=4611686018426387904) (hw:∀x,x∈order->(Lit.int .i64 x).wf=true):
  Calls Tryz.prog 181 #[.pointer (some ⟨b,0,none⟩),vn,.bool false] w fun e w'=>∃v,e=.returned v/\Strs w' v (fH order names.length u (gA names))/\(∀a n c,v=.slice (some a) n c->w.heap.size<=a.block)/\
   Sbx w' b saw clk vo nxt u0 ((u+names.length:Nat):Int)/\dU b w w':=by
 obtain⟨i0,hi,vA,tF,sY⟩:=info_parts strInfo;obtain⟨a,c,hv,-⟩:=id hn;subst hv
 have HS:Hid (∀W,Below w.heap.size w W->W.cell? ⟨w.heap.size,0,none⟩=some (.slice a names.length c)->Calls Tryz.prog 216 #[.func (.func 246) #[] #[.pointer (some ⟨w.heap.size,0,none⟩)]] W fun e w'=>∃v,e=.returned v/\OwnStrs W.heap.size w' v (gA names)/\Below W.heap.size W w'):=
  zh fun W hb hc=>sortedSeq_any _ _ names W hc (hn.later hb) YM
 have EF:=hs.lt;have HB:=zh hs;clear hs;have HN:=zh hn;clear hn;have HW:=zh hw;clear hw;have HO:=zh ho;clear ho;go_enter Tryz.func181,Tryz.ntmps181;go_wp2_with fail;refine(values_any _ _ _ _).mono ?_;rintro e w1 ⟨rfl,rfl⟩;go_wp2_with fail;refine(HS.out _ (aA _ _) YR).mono ?_;rintro e w2 ⟨v,rfl,hO,hb⟩;rcases hO with⟨h0,rfl⟩|⟨g,o,c2,rfl,hg,hgl,zD,I3,J2⟩
 ·have HE:Hid (names=[]):=zh (List.eq_nil_of_length_eq_zero (by rw[<-gB,h0];rfl));clear h0;go_wp2_with fail;go_loop [7,8] (fun l i=>l=.slice none 0 0/\i=.slice none 0 0) (fun _ i=>0)
  case atStart=>exact⟨rfl,rfl⟩
  case round=>
   obtain⟨rfl,rfl⟩:=hrel;go_wp2_with fail;go_ret;have AE:=aC (aA _ _) hb;exact⟨_,rfl,by rw[HE.out];show Strs _ _ [];exact⟨none,0,rfl,YR,YR,fun h=>absurd rfl h⟩,fun a n c e=>by simp at e,by rw[HE.out];exact HB.out.later AE,dU.of_below AE⟩
 have AE:=aC (aA _ _) hb;have hgw:w.heap.size<=g:=by simp at hg;omega
 have tU:ListAt w w2 b saw clk nxt vo u0 u g o c2 (gA names) [] (.slice none 0 0):=
  ⟨HB.out.later AE,hgw,hgl,zD,I3,fun i x hx=>⟨(J2 i x hx).1,(J2 i x hx).2.1⟩,World.ownsRow_nil _ _ _ _,dU.of_below AE⟩
 have HL0:=zh tU;have HSZ:=zh (fun x(hx:x∈names)=>oL HN.out hx);clear tU J2 hb AE HS HB hg hgl zD I3;go_wp2_with fail
 go_loopw [7,8] (fun v7 v8 wr=>∃(left out:List bA),v7=.slice (some ⟨g,o,none⟩) left.length c2/\fH order names.length u (gA names)=out++fH order left.length (u+out.length) left/\out.length+left.length=names.length/\
  ListAt w wr b saw clk nxt vo u0 ((u+out.length:Nat)) g o c2 left out v8) (fun v7 _ _=>sliceLen v7)
 case atStart=>exact⟨gA names,[],rfl,by rw[gB];rfl,by rw[gB];simp,HL0.out⟩
 case round=>
  clear HL0;obtain⟨left,out,rfl,hp,hlen,hA⟩:=hrel;generalize ND:u8=v8 at *;clear ND;have HP:=zh hp;have HLen:=zh hlen;have PF:=id hA;obtain⟨JZ,hgw',hgl,zD,I3,J2,rP,hon⟩:=hA;have HA:=zh PF;have cOrd:=JZ.cell 2;simp only[List.getElem?_toArray,List.getElem?_cons_succ,List.getElem?_cons_zero] at cOrd;have HSB:=zh JZ;have HCL:=zh J2;have MO:=zh rP;have HAP:Hid (v8.ownBlock≠some g):=zh (fun e=>by have:=(MO.out.lt g e).1;omega);clear JZ J2 rP hp PF;by_cases rU:0<left.length
  ·have yM:out.length+left.length<=1000000:=YM;clear hlen
   have QR:(Lit.int .i64 (order.getD (u+out.length) 0)).wf=true:=by
    rw[List.getD_eq_getElem?_getD]
    cases hh:order[u+out.length]? with
    |none=>rfl
    |some y=>exact HW.out y (List.mem_of_getElem? hh)
   have HNX:=zh (next1_any b saw clk vo nxt u0 ((u+out.length:Nat):Int) order vo wr HSB.out (HO.out wr hon) YM YM);rw[Int.toNat_natCast] at HNX;generalize hX:order.getD (u+out.length) 0=X at HNX QR;have HX:=zh hX;clear hX;have xX:=i64_bounds QR;obtain⟨H6,xF⟩:=xX;go_wp2_with fail;refine HNX.out.mono ?_;rintro e w3 ⟨rfl,hsb3,KW⟩;have HSB3:=zh hsb3;clear hsb3;obtain⟨hT,hk⟩:=tmod_cases X left.length rU;generalize hK:kW X left.length=k at hT hk;have HK:=zh hK;clear hK;obtain⟨x,hx,hxm⟩:=getElem?_of_lt hk;have TN:g≠b:=YM;have uP:w3.cell? ⟨g,o+k,none⟩=some (.string x):=KW.cell TN (HCL.out k x hx).1;have HXX:=zh hx;clear hx hxm;have HON3:=zh KW;have hs3:=KW.size;have yZ:Hid (w3.ownsRow (g+1) 9 1 v8 out.length (out.map Value.string)):=zh (ownsRow_only MO.out KW YM);clear KW;have hle2:out.length+1<=1000000:=YM;have QB:=zh (pickAll_step (order:=order) (l:=left) (u:=u) (out:=out) (x:=x) rU (by rw[HX.out,HK.out];exact HXX.out));rw[HX.out,HK.out] at QB;have hTe:(X.tmod left.length<0/\X.tmod left.length=(k:Int)-left.length)\/(0<=X.tmod left.length/\X.tmod left.length=(k:Int)):=YM;clear hT;rcases hTe with⟨xR,hTe⟩|⟨xR,hTe⟩
   all_goals
    go_wp2_with(at_builtin;refine wpList_append_own _ rfl _ _ 23 rfl (g+1) 9 i0 (.string ByteArray.empty) 1 16 Tryz.underlying23 hi vA tF sY rfl YO _ _ _ rfl (yZ.out.alloc _) ⟨w3.heap.size,0,none⟩ 1 1 [.string x] rfl rfl (cell_one_new _ _ _) Y3 Y7 YM Y9 ?_);intro v' w4 D2 rN _
    have hcl4:∀i y,left[i]? =some y->w4.cell? ⟨g,o+i,none⟩=some (.string y)/\w4.frozen? ⟨g,o+i,none⟩=false:=fun i y hy=>by
     have h1:=HCL.out i y hy
     have e1:w4.heap[g]? =wr.heap[g]? :=by
      rw[rN.block g Y9 (fun e=>HAP.out e.symm),Below.heap_alloc _ _ _ YM];exact HON3.out.block g YM TN
     exact⟨(World.cell?_of_block (w:=wr) e1).trans h1.1,(World.frozen?_of_block (w:=wr) e1).trans h1.2⟩
    have HD:=zh (delete_at g o c2 left k w4 hcl4 hk zD I3)
    have hsb4:Hid (Sbx w4 b saw clk vo nxt u0 ((u+out.length:Nat)+1:Int)):=zh (HSB3.out.of_block (by
     rw[rN.block b Y9 (fun e=>by have:=(yZ.out.lt b e.symm).1;omega),Below.heap_alloc _ _ _ YM]))
    have IW:Hid (dU b w w4):=zh (by
     have h03:=hon.trans HON3.out;refine⟨rN.os.trans h03.os,rN.tape.trans h03.tape,rN.output.trans h03.output,by have:=rN.size;have:=h03.size;simp at *;omega,fun i RA rO=>?_⟩;have hsz3:=h03.size;rw[rN.block i Y9 (fun e=>by have:=(yZ.out.lt i e.symm).1;omega),Below.heap_alloc _ _ _ YM]
     exact h03.block i RA rO)
    (have hs4:w3.heap.size+1<=w4.heap.size:=by have:=rN.size;simpa using this);obtain⟨g',cap',rfl⟩:=ownsRow_succ D2;(have hne4:g'≠g:=by have:=(D2.lt g' rfl).1;omega);have hg4:g'<w4.heap.size:=(D2.lt g' rfl).2;have HOWN4:=zh D2;clear D2 rN hcl4;go_wp2_with fail;refine HD.out.mono ?_;rintro e w5 ⟨rfl,hon5,C1⟩;have GS:=zh hon5;have QE:=zh C1;clear hon5 C1;go_wp2_with fail;go_roundw
    case rel=>
     (have Q6:(left.eraseIdx k).length=left.length-1:=by rw[List.length_eraseIdx,if_pos hk]);have QW:=GS.out.size;refine⟨left.eraseIdx k,out++[x],rfl,HP.out.trans QB.out,by have:=HLen.out;simp;omega,?_⟩;refine⟨?_,hgw',YM,YM,I3,QE.out,?_,?_⟩
     ·refine(hsb4.out.of_block (GS.out.block b YM YM)).cast ?_;simp;omega
     ·have:=ownsRow_at HOWN4.out GS.out hne4;simpa using this
     exact⟨GS.out.os.trans IW.out.os,GS.out.tape.trans IW.out.tape,GS.out.output.trans IW.out.output,by have:=IW.out.size;omega,fun i RA rO=>(GS.out.block i (by have:=IW.out.size;omega) YM).trans (IW.out.block i RA rO)⟩
    case measure=>simp only[sliceLen,List.length_eraseIdx,if_pos hk];omega
  have tU:left=[]:=List.eq_nil_of_length_eq_zero YM;have HL:=zh tU;subst tU;clear rU;obtain⟨a8,n8,c8,ND⟩:=ownsRow_form MO.out;subst ND;go_wp2_with fail;go_ret;have LB:=HLen.out;refine⟨_,rfl,?_,owns_block MO.out YM,?_,hon⟩
  ·rw[HP.out];simp only[List.length_nil,fH,List.append_nil];exact strs_of_owns MO.out (fun y hy=>HSZ.out y (lR (pQ (by rw[HP.out];simp[fH];exact hy))))
  refine HSB.out.cast ?_;simp at LB;omega
end Go.Proofs.YtiionicikdnnpaaGreatDoor
