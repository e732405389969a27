/- Texts of this seat, joined. -/
import Derived.Test.YtiionicikdnnpaaGreatDoorCAE
set_option maxHeartbeats 16000000
set_option maxRecDepth 100000
set_option linter.unusedVariables false
set_option linter.unusedSimpArgs false
namespace Go.Proofs.YtiionicikdnnpaaGreatDoor
open Go.RowKit
theorem line_any(i:Ins)(an:Option Addr)(cn:Nat)(N:Nat->Prop)(w:World)(hg:eJ w)(h0:0<=i.op)(h1:i.op<20)(vW: -1<=i.a)(sG:i.a<=1099511627776)(hs:i.s.size<=8000)(hm:i.m.size<=8000)(hn:aO 1 dD N w (.slice an i.names.length cn) i.names)(hl:i.names.length<=1000):jU i (.slice an i.names.length cn) w:=by
 obtain⟨op,a,s,m,names⟩:=i;dsimp only at h0 h1 vW sG hs hm hn hl
 obtain⟨wd,DK,NC⟩:∃wd,jZ[op.toNat]? =some wd/\wd.length<=6:=by
  obtain⟨k,rfl⟩:∃k:Nat,op=(k:Int):=⟨op.toNat,YM⟩;have hk:k<jZ.length:=by show k<20;omega
  exact⟨jZ[k],List.getElem?_eq_getElem hk,(by decide:∀x∈jZ,x.length<=6) _ (List.getElem_mem hk)⟩
 have hc:op=12\/op=13\/op=14\/(op=4\/op=5\/op=6\/op=7\/op=8\/op=9\/op=18\/op=19)\/op=0\/op=1\/op=2\/op=3\/op=10\/op=11\/op=15\/op=16\/op=17:=YM;rcases hc with rfl|rfl|rfl|ho|ho
 ·exact line_12 a s m names an cn N w hg vW sG hs hm hn hl
 ·exact line_13 a s m names an cn N w hg vW sG hs hm hn hl
 ·exact line_14 a s m names an cn N w hg vW sG hs hm hn hl
 ·exact line_bare op ho DK NC a s m names an cn w hg vW sG
 exact line_num op ho DK NC a s m names an cn w hg vW sG
theorem lZ{s:bA}(h:aK s=true):s.size<=20:=by
 unfold aK eZ at h;simp only[Bool.and_eq_true] at h;obtain⟨h,-⟩:=h;split at h
 ·cases h
 simp only[Bool.and_eq_true,decide_eq_true_eq] at h;exact h.1.2
theorem data_len(s:bA):s.data.toList.length=s.size:=YR
theorem ascOk_all:∀{l:List bA}{b:Option bA},pI b l=true->∀x∈l,aK x=true
 |[],_,_,x,hx=>by cases hx
 |y::l,b,h,x,hx=>by
  unfold pI at h;simp only[Bool.and_eq_true] at h;rcases List.mem_cons.1 hx with rfl|hx
  ·exact h.1.1
  exact ascOk_all h.2 x hx
theorem names_len:∀(l:List bA),(∀x∈l,aK x=true)->(l.flatMap (fun x=>[32]++x.data.toList)).length<=l.length*21
 |[],_=>YR
 |y::l,h=>by
  have h1:=names_len l (fun x hx=>h x (by simp[hx]));have h2:=lZ (h y YR);rw[List.flatMap_cons,List.length_append,List.length_cons,Nat.succ_mul,List.length_append,data_len];simp only[List.length_cons,List.length_nil];omega
theorem itoaB_len{n:Int}(h0: -1<=n)(h1:n<=1099511627776):(itoaB n).length<=21:=Lib.itoa_length_le n YM YM
theorem words_len(op:Nat):(jZ.getD op []).length<=6:=by
 by_cases h:op<20
 ·have hc:∀k,k<20->(jZ.getD k []).length<=6:=YO;exact hc op h
 rw[List.getD_eq_getElem?_getD,List.getElem?_eq_none (show jZ.length<=op from by show 20<=op;omega)];simp
theorem line_len{c:Cod}{i:Ins}(h:cQ c i=true)(vW: -1<=i.a)(sG:i.a<=1099511627776):(iZ i).length<=175:=by
 have hw:=words_len i.op.toNat;have hi:=itoaB_len vW sG;unfold iZ;rw[List.length_append,List.length_append];have key:∀l:List UInt8,l.length<=168->(jZ.getD i.op.toNat []).length+l.length+[10].length<=175:=fun l hl=>by simp only[List.length_cons,List.length_nil];omega
 apply key;split
 ·rename_i C6
  have hs:aK i.s=true:=by
   unfold cQ at h;simp[C6] at h;exact h.1.1.1
  have:=lZ hs;rw[List.length_append,data_len];simp only[List.length_cons,List.length_nil];omega
 split
 ·rename_i RR
  have hs:aK i.s=true/\(i.m=noB\/aK i.m=true):=by
   unfold cQ at h;simp[RR] at h;exact⟨h.1.1.2,h.1.2⟩
  have h1:=lZ hs.1
  have h2:(if i.m=noB then[46] else i.m.data.toList).length<=20:=by
   split
   ·simp
   rename_i hm;have:=lZ (hs.2.resolve_left hm);rw[data_len];exact this
  simp only[List.length_append,data_len,List.length_cons,List.length_nil];omega
 split
 ·rename_i AG
  have hs:pI none i.names=true/\i.names.length<=8:=by
   unfold cQ at h;simp[AG] at h;exact⟨h.1.1.1.1,h.1.1.1.2⟩
  have h1:=names_len i.names (ascOk_all hs.1);have h2:i.names.length*21<=8*21:=Nat.mul_le_mul_right _ hs.2;omega
 split
 ·simp
 rw[List.length_append];simp only[List.length_cons,List.length_nil];omega
theorem rightC_parts{c:Cod}(h:eI c=true):aK c.name=true/\c.params<=6/\∀i∈c.code,cQ c i=true:=by
 unfold eI at h;simp only[Bool.and_eq_true,decide_eq_true_eq,List.all_eq_true] at h;obtain⟨⟨⟨⟨⟨h1,h2⟩,h3⟩,-⟩,h5⟩,-⟩:=h;exact⟨h1,h2,h5⟩
theorem lines_len{c:Cod}:∀(l:List Ins),(∀i∈l,cQ c i=true/\ -1<=i.a/\i.a<=1099511627776)->(l.flatMap iZ).length<=l.length*175
 |[],_=>YR
 |i::l,h=>by
  have h1:=lines_len l (fun x hx=>h x (by simp[hx]));have h2:=h i YR;have h3:=line_len h2.1 h2.2.1 h2.2.2;rw[List.flatMap_cons,List.length_append,List.length_cons,Nat.succ_mul];omega
def headL(c:Cod):List UInt8:=[102,117,110,99,32]++c.name.data.toList++[32]++itoaB c.params++[32]++itoaB c.locals++[10]
theorem eO(c:Cod):codL c=headL c++c.code.flatMap iZ:=rfl
def CodFit(c:Cod):Prop:=c.code.length<=10000000000/\c.params<=1000000/\c.locals<=1000000/\∀i∈c.code,-1<=i.a/\i.a<=1099511627776
def CodSmall(c:Cod):Prop:=c.code.length<=10000000000/\c.params<=1000000/\c.locals<=1000000
theorem row_fit{N:Nat->Prop}{w:World}{v:Value}{l:List Cod}(hr:aO 4 encCod N w v l)(h:∀c∈l,CodSmall c):∀c∈l,CodFit c:=by
 intro c hc;obtain⟨a,cl,-,-,-,sJ⟩:=hr.at;obtain⟨k,hk⟩:=List.getElem?_of_mem hc;obtain⟨b,o,-,-,cs,⟨vc,-,-,OJ⟩,-,-⟩:=sJ k c hk;obtain⟨ac,cc,-,-,-,hcr⟩:=OJ.at;refine⟨(h c hc).1,(h c hc).2.1,(h c hc).2.2,fun i hi=>?_⟩;obtain⟨z,hz⟩:=List.getElem?_of_mem hi;obtain⟨b9,o9,-,-,cs9,⟨vn,-,-,-,-,h1,h2⟩,-,-⟩:=hcr z i hz;exact⟨h1,h2⟩
theorem formed_names{c:Cod}{i:Ins}(h:cQ c i=true):i.names.length<=8:=by
 by_cases AG:i.op=12
 ·unfold cQ at h;simp[AG] at h;exact h.1.1.1.2
 have:i.names.length=0:=by
  unfold cQ at h;simp only[AG,if_false] at h
  repeat' split at h
  all_goals first|(simp at h;done)|(simp only[Bool.and_eq_true,decide_eq_true_eq] at h;omega)
 omega
theorem head_len{c:Cod}(h:CodFit c)(hs:aK c.name=true):(headL c).length<=100:=by
 have h1:=lZ hs;have h2:=itoaB_len (n:=(c.params:Int)) YM (by have:=h.2.1;omega);have h3:=itoaB_len (n:=(c.locals:Int)) YM (by have:=h.2.2.1;omega);unfold headL;simp only[List.length_append,data_len,List.length_cons,List.length_nil];omega
theorem codL_len{c:Cod}(h:CodFit c)(hr:eI c=true):(codL c).length<=1750000000100:=by
 obtain⟨h1,h2,h3⟩:=rightC_parts hr;have h4:=head_len h h1;have h5:=lines_len (c:=c) c.code (fun i hi=>⟨h3 i hi,(h.2.2.2 i hi).1,(h.2.2.2 i hi).2⟩);have h6:c.code.length*175<=10000000000*175:=Nat.mul_le_mul_right _ h.1;rw[eO,List.length_append];omega
theorem cods_len:∀(l:List Cod),(∀c∈l,CodFit c/\eI c=true)->(l.flatMap codL).length<=l.length*1750000000100
 |[],_=>YR
 |c::l,h=>by
  have h1:=cods_len l (fun x hx=>h x (by simp[hx]));have h2:=codL_len (h c YR).1 (h c YR).2;rw[List.flatMap_cons,List.length_append,List.length_cons,Nat.succ_mul];omega
theorem lines_pre{c:Cod}(k:Nat):((c.code.take k).flatMap iZ).length<=(c.code.flatMap iZ).length:=by
 have:c.code.flatMap iZ=(c.code.take k).flatMap iZ++(c.code.drop k).flatMap iZ:=by rw[<-List.flatMap_append,List.take_append_drop]
 rw[this,List.length_append];omega
theorem flat_take{α:Type}{f:α->List UInt8}{l:List α}{k:Nat}{x:α}(hx:l[k]? =some x):(l.take (k+1)).flatMap f=(l.take k).flatMap f++f x:=by
 simp[List.take_add_one,hx]
theorem gO{B b:Nat}{bs:List Value}{w w':World}(h:Lib.IsBuilder 100 5 B b bs w)(hb:Below w.heap.size w w'):Lib.IsBuilder 100 5 B b bs w':=by
 have hk:w.grownBy w' none:=⟨hb.os,hb.tape,hb.output,hb.size,fun k hk _=>hb.block k hk⟩
 have step:∀p,Lib.BuilderAt 100 5 B b p bs w->Lib.BuilderAt 100 5 B b p bs w':=fun p hp=>by
  obtain⟨hB,v,yV,rP,rO⟩:=hp;refine⟨hB,v,aH hb yV,rP.kept hk ?_,rO⟩
  cases hv:v.ownBlock with
  |none=>exact .inl rfl
  |some k=>exact .inr (fun e=>by cases e)
 exact h.elim (fun h=>.inl (step _ h)) (fun h=>.inr (step _ h))
theorem copyCheck_k(B b:Nat)(bs:List Value)(w:World)(h:Lib.IsBuilder 100 5 B b bs w):
  Calls Tryz.prog 195 #[.pointer (some ⟨b,0,none⟩)] w fun e w'=>e=.returned (.tuple #[])/\(Lib.BuilderAt 100 5 B b (.pointer (some ⟨b,0,none⟩)) bs w'/\Below B w w'/\Lib.OthersKept 5 (some b) w w'):=by
 rcases h with h|h
 ·refine(copyCheck_fresh b w h.cell0 h.shape h.frozen0).mono ?_;rintro e w' ⟨rfl,rfl⟩;exact⟨rfl,h.used _,(Below.refl B w).setCell (p:=⟨b,0,none⟩) h.1 _,(Lib.OthersKept.refl _ _ _).setCell ⟨b,0,none⟩ rfl _⟩
 refine(copyCheck_used b w h.cell0).mono ?_;rintro e w' ⟨rfl,rfl⟩;exact⟨rfl,h,Below.refl B _,Lib.OthersKept.refl _ _ _⟩
theorem writeString_k(B b:Nat)(bs:List Value)(s:bA)(w:World)(h:Lib.IsBuilder 100 5 B b bs w)(hlen:bs.length+s.size<=140737488355328)(NO:B<=w.heap.size):
  Calls Tryz.prog 150 #[.pointer (some ⟨b,0,none⟩),.string s] w fun e w'=>e=.returned (.tuple #[.int .i64 s.size,.nilIface])/\(Lib.BuilderAt 100 5 B b (.pointer (some ⟨b,0,none⟩)) (bs++Lib.strCells s) w'/\Below B w w'/\Lib.OthersKept 5 (some b) w w'):=by
 obtain⟨i0,hi,vA,tF,sY⟩:=info_parts byteInfo;go_enter Tryz.func150,Tryz.ntmps150;go_wp2_with(go_at_call 195;refine(copyCheck_k B b bs _ h).mono ?_);rintro e w1 ⟨rfl,h1,rR,Q8⟩;obtain⟨hB,v,yV,rP,rO⟩:=h1;have c0:w1.cell? ⟨b,0,none⟩=some (.pointer (some ⟨b,0,none⟩)):=by rw[Lib.cell_of_heap yV];rfl
 have c1:w1.cell? ⟨b,1,none⟩=some v:=by rw[Lib.cell_of_heap yV];rfl
 go_wp2_with(at_builtin;refine Lib.wpList_append_own_string _ rfl _ _ 98 9 rfl B 5 i0 Tryz.underlying98 Tryz.underlying9 hi vA tF sY _ _ _ rfl rP s rfl ?c3 ?c4 ?c5 ?_);case c3=>unfold maxLen;omega
 case c4=>omega
 case c5=>have:=rR.size;omega
 intro v' w2 tT rN _
 have rU:b<w1.heap.size:=by
  exact XE
 have rQ:w2.heap[b]? =some (.cells #[.pointer (some ⟨b,0,none⟩),v] 100 (0,0)):=by
  rw[rN.block b rU (fun e=>rO e.symm)];exact yV
 have d0:w2.cell? ⟨b,0,none⟩=some (.pointer (some ⟨b,0,none⟩)):=by rw[Lib.cell_of_heap rQ];rfl
 have d1:w2.cell? ⟨b,1,none⟩=some v:=by rw[Lib.cell_of_heap rQ];rfl
 have f1:w2.frozen? ⟨b,1,none⟩=false:=Lib.frozen_of_heap rQ 1
 obtain⟨ao,n',cap,rfl⟩:∃ao n' cap,v'=.slice ao n' cap:=by
  rcases tT.2 with⟨hv,_⟩|⟨g,cap,cur,hv,_⟩
  ·exact⟨_,_,_,hv⟩
  exact⟨_,_,_,hv⟩
 go_wp2
 go_ret2;refine⟨rfl,?_,?_,?_⟩
 ·exact XZ
 ·exact YL
 exact(Q8.grown rN (fun g hg=>by
  rcases rP.2 with⟨rfl,_⟩|⟨g',cap',cur,rfl,_,D9,_⟩
  ·simp[Value.ownBlock] at hg
  simp only[Value.ownBlock,Option.some.injEq] at hg;subst hg
  exact⟨_,_,D9⟩)).setCell ⟨b,1,none⟩ rfl _
theorem cright_any(c:Cod)(ac:Option Addr)(cc:Nat)(N:Nat->Prop)(w:World)(hg:eJ w)(hs:c.name.size<=8000)(hr:aO 5 pG N w (.slice ac c.code.length cc) c.code)(hlen:c.code.length<=100000000000):
  Calls Tryz.prog 212 #[oBx22 c.name (c.params:Int) (c.locals:Int) ac c.code.length cc] w fun e w'=>e=.returned (.bool (eI c))/\Below w.heap.size w w':=by
 have uJ:=zh (aA w (iK c.name (c.params:Int) (c.locals:Int) ac c.code.length cc));have HQ:=zh (heights_any c N (.slice ac c.code.length cc) (w.alloc (iK c.name (c.params:Int) (c.locals:Int) ac c.code.length cc)) (hg.later uJ.out) hs (hr.moves iM (bU.later uJ.out) YO) hlen);clear hg hr;go_enter Tryz.func212,Tryz.ntmps212;go_wp2_with(go_at_call 237;refine HQ.out.mono ?_;rintro e w5 ⟨⟨v,rfl⟩,hb5⟩);go_ret;exact⟨rfl,aC uJ.out hb5⟩
theorem list_any(l:List Cod)(N:Nat->Prop)(v:Value)(w:World)(hg:eJ w)(hr:aO 4 encCod N w v l)(hl:l.length<=30)(hsm:∀c∈l,CodSmall c):
  Calls Tryz.prog 179 #[v] w fun e w'=>e=.returned (.string (listC l))/\Below w.heap.size w w':=by
 have JS:=zh (row_fit hr hsm);obtain⟨a,cl,rfl,l1,l2,sJ⟩:=hr.at;have HC:=zh sJ;have HG:=zh (fun W(hb:Below w.heap.size w W)=>hg.later hb);have HMv:=zh (fun W(hb:Below w.heap.size w W)=>bU.later (N:=N) hb);have h11:=hg.big;clear sJ hg hr hsm;go_enter Tryz.func179,Tryz.ntmps179;go_wp2_with fail;go_loopw [10] (fun iv wr=>∃q:Nat,q<=l.length/\iv=.int .i64 (q:Int)/\Hid (Lib.IsBuilder 100 5 w.heap.size w.heap.size (Lib.byteCells ((l.take q).flatMap codL)) wr)/\Hid (Below w.heap.size w wr)/\Hid (∀c∈l.take q,eI c=true)) (fun iv _=>l.length-(intOf iv).toNat)
 case atStart=>exact⟨0,Nat.zero_le _,rfl,zh (Lib.fresh_isBuilder 100 5 w),zh (aA w _),zh (fun c hc=>by simp at hc)⟩
 case round=>
  obtain⟨q,hq,rfl,yW,HB,HR⟩:=hrel;rename World=>wr
  have hwr:=HB.out.size;have vK:w.heap.size<wr.heap.size:=by rcases yW.out with h|h<;>exact dS h.cell0
  by_cases rU:q<l.length
  ·obtain⟨c,hx,tD⟩:=getElem?_of_lt rU;obtain⟨b,o,rfl,wR,cs,⟨vc,rfl,hzn,OJ⟩,-,hj⟩:=HC.out q c hx;have hft:=JS.out c tD;obtain⟨ac,cc,rfl,lc1,lc2,hcr⟩:=OJ.at;have HCR:=zh hcr;have c0:wr.cell? ⟨b,o+q*4,none⟩=some (.string c.name):=aD HB.out (hj 0 _ rfl);have c1:=aD HB.out (hj 1 _ rfl);have c2:=aD HB.out (hj 2 _ rfl);have c3:=aD HB.out (hj 3 _ rfl);have tB:=zh (bY wr (iK c.name (c.params:Int) (c.locals:Int) ac c.code.length cc));have rZ:=zh (aC HB.out (aA wr (iK c.name (c.params:Int) (c.locals:Int) ac c.code.length cc)));have J6:=zh (cright_any c ac cc N (wr.alloc (iK c.name (c.params:Int) (c.locals:Int) ac c.code.length cc)) (HG.out _ rZ.out) hzn (OJ.moves iM (HMv.out _ rZ.out) YO) (by have:=hft.1;omega));have HX:=zh hx;have HM:=zh tD;have HFc:=zh hft;have QY:=hft.2.1;have hp2:=hft.2.2.1;clear hj hx tD hcr OJ hft
   cases KR:eI c with
   |false=>
    have HF:Hid (listC l=noB):=zh (by
     unfold listC;rw[if_neg];intro h;have:=List.all_eq_true.1 h c HM.out
     rw[KR] at this;cases this)
    rw[KR] at J6;clear KR;go_wp2_with(go_at_call 212;refine J6.out.mono ?_;rintro e w5 ⟨rfl,hb5⟩);go_ret;exact⟨nY ZL,aC rZ.out hb5⟩
   |true=>
    obtain⟨uY,hp6,FF⟩:=rightC_parts KR
    have wS:Hid (∀d∈l.take (q+1),eI d=true):=zh (fun d hd=>by
     rw[List.take_add_one,HX.out,Option.toList,List.mem_append,List.mem_singleton] at hd;rcases hd with hd|rfl
     ·exact HR.out d hd
     exact KR)
    have hpre:=cods_len (l.take q) (fun d hd=>⟨JS.out d (List.mem_of_mem_take hd),HR.out d hd⟩);have hpre2:((l.take q).flatMap codL).length<=30*1750000000100:=Nat.le_trans hpre (Nat.mul_le_mul_right _ (by rw[List.length_take];omega));have RB:=head_len HFc.out uY;have FJ:=zh FF;have HLn:=zh (lines_len (c:=c) c.code (fun i hi=>⟨FF i hi,(HFc.out.2.2.2 i hi).1,(HFc.out.2.2.2 i hi).2⟩));have wG:=zh (flat_take (f:=codL) HX.out);rw[KR] at J6;clear KR FF hpre uY;generalize hpr:(l.take q).flatMap codL=pre at *;have R3:=zh hpr;clear hpr;go_wp2_with(go_at_call 212;refine J6.out.mono ?_;rintro e w5 ⟨rfl,hb5⟩;have CP:=zh (aC rZ.out hb5);have DR:=zh (aH hb5 tB.out);have HBd5:=zh (gO (gO yW.out (aA wr (iK c.name (c.params:Int) (c.locals:Int) ac c.code.length cc))) hb5));clear c0 c1 c2 c3 J6 yW HR;have HI1:=zh (fun W(h:Below w.heap.size w W)=>Tryz.strconv_Itoa (c.params:Int) YM YM W (HG.out _ h).pow10);have FI:=zh (fun W(h:Below w.heap.size w W)=>Tryz.strconv_Itoa (c.locals:Int) YM YM W (HG.out _ h).pow10);have hil1:=Lib.itoa_length_le (c.params:Int) YM YM;have hil2:=Lib.itoa_length_le (c.locals:Int) YM YM;have HTx:Hid ((((((⟨#[102,117,110,99,32]⟩++c.name)++⟨#[32]⟩)++⟨(Lib.itoa (c.params:Int)).toArray⟩)++⟨#[32]⟩)++⟨(Lib.itoa (c.locals:Int)).toArray⟩)++⟨#[10]⟩=bs (headL c)):=zh (iN (by simp[nM,pT,pZ,headL,itoaB]));generalize I8:Lib.itoa (c.params:Int)=it1 at *;generalize LH:Lib.itoa (c.locals:Int)=it2 at *;clear I8 LH;have hw5:=CP.out.size;refine wp_region_held_drew (S:=fun W=>W.heap[wr.heap.size]? =some (iK c.name (c.params:Int) (c.locals:Int) ac c.code.length cc)/\Below w.heap.size w W) YN ⟨DR.out,Below.drew CP.out⟩ fun hS=>?_;refine zt 0 (.pointer (some ⟨wr.heap.size,0,none⟩)) rfl (fun W hW=>Y8) ?_;refine zt 1 (.string c.name) rfl (fun W hW=>aAQ) ?_;refine zt 2 (.string (⟨#[102,117,110,99,32]⟩++c.name)) rfl (fun W hW=>Y8) ?_;refine zt 3 (.string ((⟨#[102,117,110,99,32]⟩++c.name)++⟨#[32]⟩)) rfl (fun W hW=>Y8) ?_;refine zt 4 (.pointer (some ⟨wr.heap.size,1,none⟩)) rfl (fun W hW=>Y8) ?_;refine zt 5 (.int .i64 (c.params:Int)) rfl (fun W hW=>aAQ) ?_;refine zt 9 (.pointer (some ⟨wr.heap.size,2,none⟩)) rfl (fun W hW=>Y8) ?_;refine zt 10 (.int .i64 (c.locals:Int)) rfl (fun W hW=>aAQ) ?_;(try simp only[zn]);refine zr 6 rfl (fun K hK=>?_);(try simp only[z1,z2,z3]);go_simp;refine(HI1.out w5.drew (Below.drew CP.out)).mono ?_;rintro e wi6 ⟨rfl,ki,osi,rfl⟩;have IB:=Lib.below_grow _ w5.drew (Nat.le_refl _) ki osi;generalize Sort.grow (World.drewN w5.drew ki) osi=wi6 at IB ⊢;have yX:=zh (aC (Below.drew CP.out) IB);have GH:=zh (aH IB (show w5.drew.heap[wr.heap.size]? =some (iK c.name (c.params:Int) (c.locals:Int) ac c.code.length cc) from DR.out));have HBd6:=zh (gO (gO HBd5.out (aE _)) IB);clear IB;refine hK.out _ _ ⟨GH.out,yX.out⟩ (fun hS=>?_);clear hK K;refine zt 7 (.string (((⟨#[102,117,110,99,32]⟩++c.name)++⟨#[32]⟩)++⟨it1.toArray⟩)) rfl (fun W hW=>Y8) ?_;refine zt 8 (.string ((((⟨#[102,117,110,99,32]⟩++c.name)++⟨#[32]⟩)++⟨it1.toArray⟩)++⟨#[32]⟩)) rfl (fun W hW=>Y8) ?_;(try simp only[zn]);refine zr 11 rfl (fun K hK=>?_);(try simp only[z1,z2,z3]);go_simp;refine(FI.out wi6 yX.out).mono ?_;rintro e wi7 ⟨rfl,ki,osi,rfl⟩;have IB:=Lib.below_grow _ wi6 (Nat.le_refl _) ki osi;generalize Sort.grow (World.drewN wi6 ki) osi=wi7 at IB ⊢;have BN:=zh (aC yX.out IB);have ID:=zh (aH IB GH.out);have HBd7:=zh (gO HBd6.out IB);clear IB;refine hK.out _ _ ⟨ID.out,BN.out⟩ (fun hS=>?_);clear hK K;refine zt 12 (.string (((((⟨#[102,117,110,99,32]⟩++c.name)++⟨#[32]⟩)++⟨it1.toArray⟩)++⟨#[32]⟩)++⟨it2.toArray⟩)) rfl (fun W hW=>Y8) ?_;refine zt 13 (.string ((((((⟨#[102,117,110,99,32]⟩++c.name)++⟨#[32]⟩)++⟨it1.toArray⟩)++⟨#[32]⟩)++⟨it2.toArray⟩)++⟨#[10]⟩)) rfl (fun W hW=>Y8) ?_;(try simp only[zn]);refine zr 14 rfl (fun K hK=>?_);(try simp only[z1,z2,z3]);go_simp;(try rw[HTx.out]);have hw7:=BN.out.size;refine(writeString_k w.heap.size w.heap.size _ (bs (headL c)) _ HBd7.out (by rw[Lib.byteCells_length,pY];omega) hw7).mono ?_;rintro e w8 ⟨rfl,RL,uI,hk8⟩;have zM:=zh (BN.out.trans uI);have FG:=zh (hk8 _ _ ID.out (by intro e;have:=Option.some.inj e;omega) (by intro c fz e;cases e));have HBd8:Hid (Lib.BuilderAt 100 5 w.heap.size w.heap.size (.pointer (some ⟨w.heap.size,0,none⟩)) (Lib.byteCells (pre++headL c)) w8):=zh (by rw[Lib.byteCells_append];exact RL);clear RL uI hk8;refine hK.out _ _ ⟨FG.out,zM.out⟩ (fun hS=>?_);clear hK K;(try simp only[zn]);refine wpAnyH_done YN ?_ _;clear hS;have uI:=zM.out.size;obtain⟨t0,t1,t2,t3⟩:=bx4 FG.out;go_wp2_with fail;(go_loopw [35] (fun iv wz=>∃z:Nat,z<=c.code.length/\iv=.int .i64 (z:Int)/\Hid (Lib.IsBuilder 100 5 w.heap.size w.heap.size (Lib.byteCells (pre++headL c++(c.code.take z).flatMap iZ)) wz)/\Hid (Below w.heap.size w wz)) (fun iv _=>c.code.length-(intOf iv).toNat));case atStart=>exact⟨0,Nat.zero_le _,rfl,zh (by rw[List.take_zero,List.flatMap_nil,List.append_nil];exact .inr HBd8.out),zM⟩
    case round=>
     obtain⟨z,hz,rfl,vQ,vR⟩:=hrel;(rename World=>wz);have SJ:=vR.out.size;by_cases hlz:z<c.code.length
     ·obtain⟨x,hx,tD⟩:=getElem?_of_lt hlz;obtain⟨b9,o9,rfl,-,cs9,⟨vn,rfl,hzs,hzm,J1,TS,TR⟩,-,hj⟩:=HCR.out z x hx;obtain⟨an,cn,rfl,-,-,-⟩:=J1.at;have d0:wz.cell? ⟨b9,o9+z*5,none⟩=some (.int .i64 x.op):=aD vR.out (hj 0 _ rfl);have d1:=aD vR.out (hj 1 _ rfl);have d2:=aD vR.out (hj 2 _ rfl);have d3:=aD vR.out (hj 3 _ rfl);have d4:=aD vR.out (hj 4 _ rfl);have IP:=zh (aC vR.out (aA wz (eQ x.op x.a x.s x.m an x.names.length cn)));obtain⟨ho0,rX⟩:=formed_op (FJ.out x tD);have LB:=line_any x an cn N (wz.alloc (eQ x.op x.a x.s x.m an x.names.length cn)) (HG.out _ IP.out) ho0 rX TS TR hzs hzm (J1.moves aV (HMv.out _ IP.out) YO) (by have:=formed_names (FJ.out x tD);omega);unfold jU at LB;have HLN:=zh LB;have xY:=zh (flat_take (f:=iZ) hx)
      have tK:(pre++headL c++(c.code.take z).flatMap iZ).length+(iZ x).length<=140737488355328:=by
       have h1:=lines_pre (c:=c) (z+1);rw[xY.out,List.length_append] at h1;have h2:=HLn.out;have h3:c.code.length*175<=10000000000*175:=Nat.mul_le_mul_right _ HFc.out.1;rw[List.length_append,List.length_append];omega
      have HSz:=zh tK;clear LB hx tD hj J1 hzs hzm tK ho0 rX TS TR;go_wp2_with(go_at_call 213;refine HLN.out.mono ?_;rintro e sV ⟨rfl,zV⟩;have E7:=zh (aC IP.out zV);have HBz10:=zh (gO (gO vQ.out (aA wz (eQ x.op x.a x.s x.m an x.names.length cn))) zV));have hw10:=E7.out.size;have HWS:=zh (writeString_k w.heap.size w.heap.size _ (bs (iZ x)) _ HBz10.out (by rw[Lib.byteCells_length,pY];exact HSz.out) hw10);go_wp2_with(go_at_call 150;refine HWS.out.mono ?_;rintro e yB ⟨rfl,hB11,LT,-⟩);have uW:=zh (E7.out.trans LT);have tG:=zh hB11;clear hB11 LT HWS d0 d1 d2 d3 d4;go_roundw;(case rel=>first|exact⟨z+1,YM,YZ,zh (.inr YQ),uW⟩|exact⟨_,_,_,_,_,⟨z+1,YM,YZ,zh (.inr YQ),uW⟩,rfl⟩|exact⟨_,_,_,_,_,_,⟨z+1,YM,YZ,zh (.inr YQ),uW⟩,rfl⟩|exact⟨_,_,_,_,_,_,_,⟨z+1,YM,YZ,zh (.inr YQ),uW⟩,rfl⟩|exact⟨_,_,_,_,_,_,_,_,⟨z+1,YM,YZ,zh (.inr YQ),uW⟩,rfl⟩|exact⟨_,_,_,_,_,_,_,_,_,⟨z+1,YM,YZ,zh (.inr YQ),uW⟩,rfl⟩|exact⟨_,_,_,_,_,_,_,_,_,_,⟨z+1,YM,YZ,zh (.inr YQ),uW⟩,rfl⟩|exact⟨_,_,_,_,_,_,_,_,_,_,_,⟨z+1,YM,YZ,zh (.inr YQ),uW⟩,rfl⟩|exact⟨_,_,_,_,_,_,_,_,_,_,_,_,⟨z+1,YM,YZ,zh (.inr YQ),uW⟩,rfl⟩|exact⟨_,_,_,_,_,_,_,_,_,_,_,_,_,⟨z+1,YM,YZ,zh (.inr YQ),uW⟩,rfl⟩|exact⟨_,_,_,_,_,_,_,_,_,_,_,_,_,_,⟨z+1,YM,YZ,zh (.inr YQ),uW⟩,rfl⟩|exact⟨_,_,_,_,_,_,_,_,_,_,_,_,_,_,_,⟨z+1,YM,YZ,zh (.inr YQ),uW⟩,rfl⟩|exact⟨_,_,_,_,_,_,_,_,_,_,_,_,_,_,_,_,⟨z+1,YM,YZ,zh (.inr YQ),uW⟩,rfl⟩|exact⟨_,_,_,_,_,_,_,_,_,_,_,_,_,_,_,_,_,⟨z+1,YM,YZ,zh (.inr YQ),uW⟩,rfl⟩|exact⟨_,_,_,_,_,_,_,_,_,_,_,_,_,_,_,_,_,_,⟨z+1,YM,YZ,zh (.inr YQ),uW⟩,rfl⟩|exact⟨_,_,_,_,_,_,_,_,_,_,_,_,_,_,_,_,_,_,_,⟨z+1,YM,YZ,zh (.inr YQ),uW⟩,rfl⟩|exact⟨_,_,_,_,_,_,_,_,_,_,_,_,_,_,_,_,_,_,_,_,⟨z+1,YM,YZ,zh (.inr YQ),uW⟩,rfl⟩|exact⟨_,_,_,_,_,_,_,_,_,_,_,_,_,_,_,_,_,_,_,_,_,⟨z+1,YM,YZ,zh (.inr YQ),uW⟩,rfl⟩|exact⟨_,_,_,_,_,_,_,_,_,_,_,_,_,_,_,_,_,_,_,_,_,_,⟨z+1,YM,YZ,zh (.inr YQ),uW⟩,rfl⟩|exact⟨_,_,_,_,_,_,_,_,_,_,_,_,_,_,_,_,_,_,_,_,_,_,_,⟨z+1,YM,YZ,zh (.inr YQ),uW⟩,rfl⟩|exact⟨_,_,_,_,_,_,_,_,_,_,_,_,_,_,_,_,_,_,_,_,_,_,_,_,⟨z+1,YM,YZ,zh (.inr YQ),uW⟩,rfl⟩|exact⟨_,_,_,_,_,_,_,_,_,_,_,_,_,_,_,_,_,_,_,_,_,_,_,_,_,⟨z+1,YM,YZ,zh (.inr YQ),uW⟩,rfl⟩|exact⟨_,_,_,_,_,_,_,_,_,_,_,_,_,_,_,_,_,_,_,_,_,_,_,_,_,_,⟨z+1,YM,YZ,zh (.inr YQ),uW⟩,rfl⟩|exact⟨_,_,_,_,_,_,_,_,_,_,_,_,_,_,_,_,_,_,_,_,_,_,_,_,_,_,_,⟨z+1,YM,YZ,zh (.inr YQ),uW⟩,rfl⟩|exact⟨_,_,_,_,_,_,_,_,_,_,_,_,_,_,_,_,_,_,_,_,_,_,_,_,_,_,_,_,⟨z+1,YM,YZ,zh (.inr YQ),uW⟩,rfl⟩|exact⟨_,_,_,_,_,_,_,_,_,_,_,_,_,_,_,_,_,_,_,_,_,_,_,_,_,_,_,_,_,⟨z+1,YM,YZ,zh (.inr YQ),uW⟩,rfl⟩);case measure=>simp[intOf];omega
     have hz':c.code.take z=c.code:=List.take_of_length_le YM;rw[hz'] at vQ;clear hz';go_wp2_with fail;go_roundw;(case rel=>first|exact⟨q+1,YM,YZ,zh YS,vR,wS⟩|exact⟨_,_,_,_,_,⟨q+1,YM,YZ,zh YS,vR,wS⟩,rfl⟩|exact⟨_,_,_,_,_,_,⟨q+1,YM,YZ,zh YS,vR,wS⟩,rfl⟩|exact⟨_,_,_,_,_,_,_,⟨q+1,YM,YZ,zh YS,vR,wS⟩,rfl⟩|exact⟨_,_,_,_,_,_,_,_,⟨q+1,YM,YZ,zh YS,vR,wS⟩,rfl⟩|exact⟨_,_,_,_,_,_,_,_,_,⟨q+1,YM,YZ,zh YS,vR,wS⟩,rfl⟩|exact⟨_,_,_,_,_,_,_,_,_,_,⟨q+1,YM,YZ,zh YS,vR,wS⟩,rfl⟩|exact⟨_,_,_,_,_,_,_,_,_,_,_,⟨q+1,YM,YZ,zh YS,vR,wS⟩,rfl⟩|exact⟨_,_,_,_,_,_,_,_,_,_,_,_,⟨q+1,YM,YZ,zh YS,vR,wS⟩,rfl⟩|exact⟨_,_,_,_,_,_,_,_,_,_,_,_,_,⟨q+1,YM,YZ,zh YS,vR,wS⟩,rfl⟩|exact⟨_,_,_,_,_,_,_,_,_,_,_,_,_,_,⟨q+1,YM,YZ,zh YS,vR,wS⟩,rfl⟩|exact⟨_,_,_,_,_,_,_,_,_,_,_,_,_,_,_,⟨q+1,YM,YZ,zh YS,vR,wS⟩,rfl⟩|exact⟨_,_,_,_,_,_,_,_,_,_,_,_,_,_,_,_,⟨q+1,YM,YZ,zh YS,vR,wS⟩,rfl⟩|exact⟨_,_,_,_,_,_,_,_,_,_,_,_,_,_,_,_,_,⟨q+1,YM,YZ,zh YS,vR,wS⟩,rfl⟩|exact⟨_,_,_,_,_,_,_,_,_,_,_,_,_,_,_,_,_,_,⟨q+1,YM,YZ,zh YS,vR,wS⟩,rfl⟩|exact⟨_,_,_,_,_,_,_,_,_,_,_,_,_,_,_,_,_,_,_,⟨q+1,YM,YZ,zh YS,vR,wS⟩,rfl⟩|exact⟨_,_,_,_,_,_,_,_,_,_,_,_,_,_,_,_,_,_,_,_,⟨q+1,YM,YZ,zh YS,vR,wS⟩,rfl⟩|exact⟨_,_,_,_,_,_,_,_,_,_,_,_,_,_,_,_,_,_,_,_,_,⟨q+1,YM,YZ,zh YS,vR,wS⟩,rfl⟩|exact⟨_,_,_,_,_,_,_,_,_,_,_,_,_,_,_,_,_,_,_,_,_,_,⟨q+1,YM,YZ,zh YS,vR,wS⟩,rfl⟩|exact⟨_,_,_,_,_,_,_,_,_,_,_,_,_,_,_,_,_,_,_,_,_,_,_,⟨q+1,YM,YZ,zh YS,vR,wS⟩,rfl⟩|exact⟨_,_,_,_,_,_,_,_,_,_,_,_,_,_,_,_,_,_,_,_,_,_,_,_,⟨q+1,YM,YZ,zh YS,vR,wS⟩,rfl⟩|exact⟨_,_,_,_,_,_,_,_,_,_,_,_,_,_,_,_,_,_,_,_,_,_,_,_,_,⟨q+1,YM,YZ,zh YS,vR,wS⟩,rfl⟩|exact⟨_,_,_,_,_,_,_,_,_,_,_,_,_,_,_,_,_,_,_,_,_,_,_,_,_,_,⟨q+1,YM,YZ,zh YS,vR,wS⟩,rfl⟩|exact⟨_,_,_,_,_,_,_,_,_,_,_,_,_,_,_,_,_,_,_,_,_,_,_,_,_,_,_,⟨q+1,YM,YZ,zh YS,vR,wS⟩,rfl⟩|exact⟨_,_,_,_,_,_,_,_,_,_,_,_,_,_,_,_,_,_,_,_,_,_,_,_,_,_,_,_,⟨q+1,YM,YZ,zh YS,vR,wS⟩,rfl⟩|exact⟨_,_,_,_,_,_,_,_,_,_,_,_,_,_,_,_,_,_,_,_,_,_,_,_,_,_,_,_,_,⟨q+1,YM,YZ,zh YS,vR,wS⟩,rfl⟩);case measure=>simp[intOf];omega
  have wK:l.take q=l:=List.take_of_length_le YM;rw[wK] at yW HR
  have HF:Hid (listC l=⟨(l.flatMap codL).toArray⟩):=zh (by
   unfold listC
   rw[if_pos (List.all_eq_true.2 HR.out)])
  clear HR wK;go_wp2_with(go_at_call 156;refine(Tryz.Builder_String_any w.heap.size w.heap.size _ _ yW.out hwr).mono ?_;rintro e w' ⟨rfl,uR⟩);go_ret;exact⟨nY HF.out.symm,HB.out.trans uR⟩
theorem lastIdx_ge(s:bA):∀(l:List bA),-1<=eU l s/\eU l s<l.length
 |[]=>by simp[eU]
 |x::r=>by
  have:=lastIdx_ge s r;rw[eU,List.length_cons];split
  ·omega
  split<;>omega
theorem lastIdx_off(s:bA):∀(l:List bA)(k:Nat),0<=eU (l.drop k) s->eU l s=eU (l.drop k) s+k
 |l,0,_=>YR
 |[],k+1,h=>by simp[eU] at h
 |x::r,k+1,h=>by
  rw[List.drop_succ_cons] at h ⊢;have:=lastIdx_off s r k h;rw[eU,if_pos YM,this];omega
theorem lastIdx_hit{s x:bA}{l:List bA}{k:Nat}(hx:l[k]? =some x)(h:eU (l.drop (k+1)) s= -1)(he:x=s):eU l s=k:=by
 obtain⟨hk,hv⟩:=Yb.1 hx;have e:eU (l.drop k) s=0:=by rw[List.drop_eq_getElem_cons hk,eU,h,hv,if_neg YM,if_pos he]
 have:=lastIdx_off s l k YM;omega
theorem lastIdx_miss{s x:bA}{l:List bA}{k:Nat}(hx:l[k]? =some x)(h:eU (l.drop (k+1)) s= -1)(he:x≠s):eU (l.drop k) s= -1:=by
 obtain⟨hk,hv⟩:=Yb.1 hx;rw[List.drop_eq_getElem_cons hk,eU,h,hv,if_neg YM,if_neg he]
theorem clast_any(l:List bA)(s:bA)(v:Value)(w:World)(hl:l.length<=1000000)(hv:Strs w v l):
  Calls Tryz.prog 239 #[v,.string s] w fun e w'=>e=.returned (.int .i64 (eU l s))/\w=w':=by
 rcases hv.cases with⟨rfl,a,c,rfl⟩|⟨b,o,c,rfl,h0,h1,h2,hb,hc⟩
 ·clear hv;go_enter Tryz.func239,Tryz.ntmps239;go_wp2_with fail;go_loop [5] (fun i=>i=.int .i64 (-1)) (fun _=>0)
  case atStart=>rfl
  case round=>
   subst hrel;exact YG
 clear hv;have HC:=zh hc;clear hc;go_enter Tryz.func239,Tryz.ntmps239;go_wp2_with fail;go_loop [5] (fun i=>∃k:Nat,k<=l.length/\i=.int .i64 ((k:Int)-1)/\Hid (eU (l.drop k) s= -1)) (fun i=>(intOf i+1).toNat)
 case atStart=>exact⟨l.length,Nat.le_refl _,rfl,zh (by rw[List.drop_length];rfl)⟩
 case round=>
  obtain⟨k,hk,rfl,HL⟩:=hrel
  cases k with
  |zero=>
   have HF:Hid (eU l s= -1):=HL;go_wp2_with fail;go_ret;exact⟨iJ HF.out.symm,rfl⟩
  |succ k=>
   obtain⟨x,hx,-⟩:=getElem?_of_lt (show k<l.length by omega);have uP:=(HC.out k x hx).1;have e1:((k+1:Nat):Int)-1=(k:Int):=YM;rw[e1];by_cases he:x=s
   ·(have he':(x.toList==s.toList)=true:=by rw[eG];exact decide_eq_true he);have HF:=zh (lastIdx_hit hx HL.out he);clear he hx HC;go_wp2_with fail;go_ret;exact⟨iJ HF.out.symm,rfl⟩
   (have he':(x.toList==s.toList)=false:=by rw[eG];exact decide_eq_false he);have HF:=zh (lastIdx_miss hx HL.out he);clear he hx HC;go_wp2_with fail
   go_round
   (case rel=>exact⟨k,YM,YZ,HF⟩);case measure=>simp[intOf]
theorem enters_variable1:∀args w,(callFunc 272 args).run Tryz.prog w=.ok (.enter 272 args) w:=enters_of Tryz.func272 YN rfl
theorem variable1_any(s n:bA)(k:Int)(a:Option Addr)(m c b:Nat)(w:World)(hb:w.cell? ⟨b,0,none⟩=some (.string s)):
  Calls Tryz.prog 272 #[oBx26 n k a m c,.pointer (some ⟨b,0,none⟩)] w fun e w'=>e=.returned (.bool (decide (n=s)))/\Below w.heap.size w w':=by
 have rU:=dS hb;go_enter Tryz.func272,Tryz.ntmps272;go_wp2_with fail;go_ret;exact⟨aF (eG _ _),aA _ _⟩
theorem varIdx_eq(l:List Fld)(s:bA):kJ (l.map (·.1)) s=nV (fun f:Fld=>decide (f.1=s)) l:=by
 unfold kJ nV;rw[List.findIdx?_map];rfl
def TestsFld(g:FuncId)(cap:Array Value)(p:bA->Bool)(w:World):Prop:=
 ∀(n:bA)(k:Int)(a:Option Addr)(m c:Nat)W,Below w.heap.size w W->Calls Tryz.prog g (#[oBx26 n k a m c]++cap) W fun e W'=>e=.returned (.bool (p n))/\Below W.heap.size W W'
theorem indexFunc_fld(g:FuncId)(cap:Array Value)(p:bA->Bool)(l:List Fld)(N:Nat->Prop)(v:Value)(w:World)(hv:aO 3 gS N w v l)
  (eg:∀args w,(callFunc g args).run Tryz.prog w=.ok (.enter g args) w) (hp:TestsFld g cap p w):
  Calls Tryz.prog 271 #[v,.func (.func g) #[] cap] w fun e w'=>e=.returned (.int .i64 (nV (fun f:Fld=>p f.1) l))/\Below w.heap.size w w':=by
 have HP:=zh hp;clear hp;rcases hv.cases YO with⟨rfl,a,c,rfl⟩|⟨b,o,c,rfl,h0,h1,h2,hb,hN,hc⟩
 ·clear hv;go_enter Tryz.func271,Tryz.ntmps271;exact WO
 clear hv;have HC:=zh hc;clear hc;go_enter Tryz.func271,Tryz.ntmps271;go_wp2_with fail;go_loopw [8] (fun i wr=>∃k:Nat,k<=l.length/\i=.int .i64 k/\Hid (∀x,x∈l.take k->p x.1=false)/\Hid (Below w.heap.size w wr)) (fun i _=>l.length-(intOf i).toNat)
 case atStart=>exact⟨0,Nat.zero_le _,rfl,zh YR,zh (Below.refl _ _)⟩
 case round=>
  obtain⟨k,hk,rfl,HN,HB⟩:=hrel;rename World=>wr
  by_cases rU:k<l.length
  ·obtain⟨x,hx,QQ⟩:=getElem?_of_lt rU;obtain⟨cs,uG,-,hj⟩:=HC.out k x hx;obtain⟨nm,t⟩:=x;obtain⟨ct,rfl,tK,IT⟩:=uG
   cases t with
   |mk kd fs=>
    rw[gV] at IT;obtain⟨vf,rfl,xQ⟩:=IT;obtain⟨a1,RW,rfl,-⟩:=xQ;have c0:wr.cell? ⟨b,o+k*3,none⟩=some (.string nm):=aD HB.out (hj 0 _ rfl);have c1:=aD HB.out (hj 1 _ rfl);have c2:=aD HB.out (hj 2 _ rfl);have HX:=zh hx;have tA:=zh (HP.out nm kd a1 fs.length RW _ HB.out);clear hj hx QQ HC;generalize fs.length=ln at *
    cases hq:p nm with
    |true=>
     rw[hq] at tA;have HQ:=zh hq;clear hq;go_wp2_with(go_at_fn g;refine(tA.out).mono ?_;rintro e w' ⟨rfl,uR⟩);go_ret;exact⟨iJ (idxOf_some (p:=fun f:Fld=>p f.1) (findIdx_hit HX.out HQ.out HN.out)).symm,aC HB.out uR⟩
    |false=>
     rw[hq] at tA;have HQ:=zh hq;clear hq;go_wp2_with(go_at_fn g;refine(tA.out).mono ?_;rintro e w' ⟨rfl,uR⟩);go_roundw;(case rel=>exact⟨k+1,YM,YZ,zh (take_no (p:=fun f:Fld=>p f.1) HX.out HQ.out HN.out),zh (aC HB.out uR)⟩);case measure=>simp[intOf];omega
  go_wp2_with fail;go_ret;exact⟨iJ (idxOf_none (p:=fun f:Fld=>p f.1) (findIdx_miss YM HN.out)).symm,HB.out⟩
theorem variable_any(cb:Nat)(vars:List Fld)(N:Nat->Prop)(vv:Value)(u1 u2:Value)(s:bA)(w:World)(vE:w.heap[cb]? =some (.cells #[vv,u1,u2] 226))(hv:aO 3 gS N w vv vars):
  Calls Tryz.prog 240 #[.pointer (some ⟨cb,0,none⟩),.string s] w fun e w'=>e=.returned (.int .i64 (kJ (vars.map (·.1)) s))/\Below w.heap.size w w':=by
 have LG:∀W,Below w.heap.size w W->W.heap[w.heap.size]? =some (iH s)->Calls Tryz.prog 271 #[vv,.func (.func 272) #[] #[.pointer (some ⟨w.heap.size,0,none⟩)]] W
   fun e w'=>e=.returned (.int .i64 (kJ (vars.map (·.1)) s))/\Below W.heap.size W w':=fun W hb hW=>by
  rw[varIdx_eq];refine indexFunc_fld _ _ (fun n=>decide (n=s)) vars N vv W (hv.moves aZ (bU.later hb) YO) enters_variable1 (fun n k a m c W' uR=>?_);have h0:W.cell? ⟨w.heap.size,0,none⟩=some (.string s):=by simp[World.cell?,hW]
  exact variable1_any s n k a m c w.heap.size W' (aD uR h0)
 have HI:=zh LG;clear LG;generalize kJ (vars.map (·.1)) s=r at HI ⊢;obtain⟨a,c,rfl,-⟩:=hv;generalize vars.length=n at *;obtain⟨⟨b0,b1,b2⟩,-⟩:=bx3 vE;have rU:=dS b0;clear vE;go_enter Tryz.func240,Tryz.ntmps240;go_wp2_with(go_at_call 271;refine(HI.out _ (aA _ _) (dR _ _)).mono ?_;rintro e w' ⟨rfl,uR⟩);go_ret;exact⟨rfl,aC (aA _ _) uR⟩
theorem VM{p:Prop}(h:p:=by
 try simp only[z1,z2,z3]
 go_simp;refine hK.out _ _ CN.out (fun hS=>?_);clear hK K;try simp only[zn]
 refine wpAnyH_ready (rs:=[7]) YN YR ?_;refine AllReadyH.cons rfl (fun K hK=>?_) AllReadyH.nil;refine step_append_lies ((w.alloc (eQ i.op i.a i.s i.m an i.names.length cn)).drew.alloc (eQ i.op i.a i.s i.m an i.names.length cn)) rfl _ _ 217 rfl B 222 i0 (nT 0 0 ByteArray.empty ByteArray.empty none 0 0) 5 72 Tryz.underlying217 xK vA tF sY rfl YM (.slice a n cp) n css.flatten ZV D3.out ⟨w.heap.size+1,0,none⟩ 1 1 [.int .i64 i.op,.int .i64 i.a,.string i.s,.string i.m,.slice an i.names.length cn] ZV rfl (World.news_of_block (cs:=#[.int .i64 i.op,.int .i64 i.a,.string i.s,.string i.m,.slice an i.names.length cn]) (t:=222) (fr:=(0,0)) (by simpa using bY (w.alloc (eQ i.op i.a i.s i.m an i.names.length cn)).drew (eQ i.op i.a i.s i.m an i.names.length cn))) Y3 YM Y7 YM Y9 (w.heap.size+2) YR ?_;intro g cap w3 yZ rN sD TC;have JP:=zh (CN.out.trans ((Off.of_grown rN).mono fun b hb=>.inr hb));obtain⟨q0,q1,q2⟩:=HH.out.push rZ.out FI.out rfl (by rw[HN.out];exact yZ) rN aAm;rw[HN.out] at q1 q2;have Q1:=zh q1;have Q2:=zh q2;obtain⟨⟨p0,p1,p2⟩,r0,r1,r2⟩:=bx3 q0;clear q0 q1 q2 yZ rN sD b0 b1 b2 f0 f1 f2 D3 rZ FI;refine hK.out _ _ JP.out (fun hS=>?_);clear hK K;refine zq 8 (.pointer (some ⟨cb,0,none⟩)) rfl ?_;refine zq 9 (.pointer (some ⟨cb,1,none⟩)) rfl ?_;try simp only[zn]
 refine zr 10 rfl (fun K hK=>?_);try simp only[z1,z2,z3]
 go_simp;refine hK.out _ _ (JP.out.trans (Off.setCell (S:=inC cb _) w3 (.inl rfl))) (fun hS=>?_);clear hK K;try simp only[zn]
 refine wpAnyH_done YN ?_ _;clear hS;have pz:(w3.setCell ⟨cb,1,none⟩ (.slice (some ⟨g,0,none⟩) (n+1) cap)).cell? ⟨cb,1,none⟩=some (.slice (some ⟨g,0,none⟩) (n+1) cap):=(bx3 Q1.out.box).1.2.1;generalize w3.setCell ⟨cb,1,none⟩ (.slice (some ⟨g,0,none⟩) (n+1) cap)=w4 at *;go_wp2_with fail;go_ret
 exact⟨_,_,YZ,Q1.out,Q2.out⟩):p:=h
theorem Off.of_grown{v:Value}{w w':World}(h:w.grownBy w' v.ownBlock):Off (fun b=>v.ownBlock=some b) w w':=⟨h.os,h.tape,h.output,h.size,fun k hk hn=>h.block k hk (fun e=>hn e.symm)⟩
theorem Cp.push{B cb:Nat}{vars:List Fld}{vv v:Value}{c:Cmp}{css:List (List Value)}{w w2 w3:World}{i:Ins}{news:List Value}{g cap:Nat}(h:Cp B cb vars vv c css v w)(hb:Below w.heap.size w w2)
  (hi:pG (mO B v) w2 i news) (hn5:news.length=5) (rP:w3.ownsRow B 222 5 (.slice (some ⟨g,0,none⟩) (c.code.length+1) cap) (c.code.length+1) (css.flatten++news)) (rN:w2.grownBy w3 v.ownBlock) (sD:v.ownBlock=some g\/g=w2.heap.size):
  w3.heap[cb]? =some (.cells #[vv,v,.int .i64 (c.locals:Int)] 226)/\Cp B cb vars vv (c.put i) (css++[news]) (.slice (some ⟨g,0,none⟩) (c.code.length+1) cap) (w3.setCell ⟨cb,1,none⟩ (.slice (some ⟨g,0,none⟩) (c.code.length+1) cap))/\
   Ext cb v w (.slice (some ⟨g,0,none⟩) (c.code.length+1) cap) (w3.setCell ⟨cb,1,none⟩ (.slice (some ⟨g,0,none⟩) (c.code.length+1) cap)):=by
 have h2:=h.later hb;have hcb:=h.hcb;have sB:=Off.of_grown rN;have rO:¬v.ownBlock=some cb:=fun e=>by have:=(h.own cb e).1;omega
 have xU:=sB.heap rO h2.box;have TC:=h2.gro.added iM hi hn5 rP rN sD
 have hx:Ext cb v w (.slice (some ⟨g,0,none⟩) (c.code.length+1) cap) (w3.setCell ⟨cb,1,none⟩ (.slice (some ⟨g,0,none⟩) (c.code.length+1) cap)):=by
  refine⟨(Ba hb).trans ((sB.mono fun b hb=>.inr hb).trans (Off.setCell (S:=inC cb v) w3 (.inl rfl))),fun b rQ=>?_⟩;have e:g=b:=by simpa[Value.ownBlock] using rQ
  subst e;rcases sD with h1|h1
  ·exact .inl h1
  have:=hb.size;exact .inr YM
 refine⟨xU,h.put hx ?_ (TC.stays iM (dF.of_off (Off.setCell (S:=fun b=>b=cb) w3 rfl) fun b hb=>.inl (by have hb:b=cb:=hb;omega))),hx⟩;rw[aT xU];rfl
theorem Cp.form{B cb:Nat}{vars:List Fld}{vv v:Value}{c:Cmp}{css:List (List Value)}{w:World}(h:Cp B cb vars vv c css v w):∃a cp,v=.slice a c.code.length cp:=by
 rcases h.gro.val with⟨rfl,h0⟩|⟨g,cap,rfl,-⟩
 ·exact⟨none,0,by rw[h0];rfl⟩
 exact⟨_,_,rfl⟩
theorem nZ{B cb:Nat}{vars:List Fld}{vv v:Value}{c:Cmp}{css:List (List Value)}{w:World}(i:Ins)(vn:Value)(h:Cp B cb vars vv c css v w)(hlen:c.code.length<=100000000000)
  (hi:pG (mO B v) w i [.int .i64 i.op,.int .i64 i.a,.string i.s,.string i.m,vn]):
  Calls Tryz.prog 215 #[.pointer (some ⟨cb,0,none⟩),.agg #[.int .i64 i.op,.int .i64 i.a,.string i.s,.string i.m,vn]] w fun e w'=>∃css' v',e=.returned (.int .i64 (c.code.length:Int))/\Cp B cb vars vv (c.put i) css' v' w'/\Ext cb v w v' w':=by
 obtain⟨i0,xK,vA,tF,sY⟩:=info_parts insInfo;have HH:=zh h;have HI:=zh hi;obtain⟨vn',hvn,-,-,J1,-⟩:=hi;cases hvn;obtain⟨an,cn,rfl,-⟩:=J1;have hcb:=h.hcb;have rU:=h.lt;have tQ:=h.size_le;obtain⟨a,cp,rfl⟩:=h.form;have rR:=(aA w (eQ i.op i.a i.s i.m an i.names.length cn)).drew;have rQ:=aC rR (aA (w.alloc (eQ i.op i.a i.s i.m an i.names.length cn)).drew (eQ i.op i.a i.s i.m an i.names.length cn));have D3:=zh (h.later rQ).gro.own;have rZ:=zh rQ;have FI:=zh (iM _ _ _ _ _ _ (bU.later rQ) HI.out);have QT:∃a0 c0,vv=.slice a0 vars.length c0:=by obtain⟨a0,c0,e,-⟩:=h.row;exact⟨a0,c0,e⟩
 obtain⟨a0,c0,rfl⟩:=QT;obtain⟨⟨b0,b1,b2⟩,f0,f1,f2⟩:=bx3 (h.later rR).box;have hix:=(bx5 (show(w.alloc (eQ i.op i.a i.s i.m an i.names.length cn)).heap[w.heap.size]? =some (eQ i.op i.a i.s i.m an i.names.length cn) from bY w (eQ i.op i.a i.s i.m an i.names.length cn))).1;obtain⟨x0,x1,x2,x3,x4⟩:=hix
 have K4:¬inC cb (.slice a c.code.length cp) w.heap.size:=fun e=>by
  rcases e with e|e
  ·omega
  have:=(h.own _ e).2;omega
 have MP:Hid (Off (inC cb (.slice a c.code.length cp)) (w.alloc (eQ i.op i.a i.s i.m an i.names.length cn)) (w.alloc (eQ i.op i.a i.s i.m an i.names.length cn)).drew):=zh (Off.refl _ _).drew;have CN:Hid (Off (inC cb (.slice a c.code.length cp)) (w.alloc (eQ i.op i.a i.s i.m an i.names.length cn)) ((w.alloc (eQ i.op i.a i.s i.m an i.names.length cn)).drew.alloc (eQ i.op i.a i.s i.m an i.names.length cn))):=zh (MP.out.trans (Ba (aA _ _)));clear rR rQ h;generalize LB:c.code.length=n at *;have HN:=zh LB;clear LB;go_enter Tryz.func215,Tryz.ntmps215;go_wp2_with fail;refine wp_region_held_drew (S:=fun W=>Off (inC cb (.slice a n cp)) (w.alloc (eQ i.op i.a i.s i.m an i.names.length cn)) W) YN MP.out fun hS=>?_;refine zq 0 (.pointer (some ⟨cb,0,none⟩)) rfl ?_;refine zq 1 (.pointer (some ⟨cb,0,none⟩)) rfl ?_;refine zq 2 (.pointer (some ⟨cb,0,none⟩)) rfl ?_;refine zq 3 (.pointer (some ⟨cb,1,none⟩)) rfl ?_;refine zt 5 (nT i.op i.a i.s i.m an i.names.length cn) rfl (fun W hW=>by have y0:=Off.cell hW K4 x0;have y1:=Off.cell hW K4 x1;have y2:=Off.cell hW K4 x2;have y3:=Off.cell hW K4 x3;have y4:=Off.cell hW K4 x4;go_simp) ?_;try simp only[zn]
 refine wpAnyH_ready (rs:=[4,6]) YN YR ?_;refine AllReadyH.cons rfl (fun K hK=>?_) (AllReadyH.cons rfl (fun K hK=>?_) AllReadyH.nil)
 ·skip;rw[if_pos YN];try simp only[z1,z2,z3]
  go_simp;refine hK.out _ _ hS (fun hS=>?_);clear hK K;try simp only[zn]
  refine zr 6 rfl (fun K hK=>?_);exact VM
 skip;rw[if_pos YN];try simp only[z1,z2,z3]
 go_simp;refine hK.out _ _ CN.out (fun hS=>?_);clear hK K;try simp only[zn]
 have hlt1:cb<w.heap.size+1:=YM;have b1w:w.cell? ⟨cb,1,none⟩=some (.slice a n cp):=(bx3 HH.out.box).1.2.1;refine zr 4 rfl (fun K hK=>?_);exact VM
theorem VX{p:Prop}(h:p:=by
 repeat(first|exact Below.refl _ _|refine Below.drew ?_|refine Below.alloc ?_ Z5 _|refine Below.setCell ?_ Z5 _)):p:=h
theorem XV{p:Prop}(h:p:=by
 exact sC.below (aC HB.out sT.out) (fun k hk=>by have hk:k=w.heap.size+1:=hk;omega) (by have:=(aC HB.out sT.out).size;exact this)):p:=h
theorem rowS_of_owns{w:World}{B:Nat}{v:Value}{l:List bA}(h:w.ownsRow B 9 1 v l.length (l.map Value.string))(hb:B<=w.heap.size)(hs:∀x,x∈l->x.size<=140737488355328):aO 1 dD (bQ B) w v l:=by
 have hf:(l.map fun x=>[Value.string x]).flatten=l.map Value.string:=by
  clear h hb hs
  induction l with
  |nil=>rfl
  |cons x l ih=>simp[ih]
 refine Gro.row (T:=9) (css:=l.map fun x=>[Value.string x]) aV ⟨by rw[hf];exact h,YR,fun c hc=>?_,fun i x c hx hc=>?_,hb⟩
 ·obtain⟨x,-,rfl⟩:=List.mem_map.1 hc;rfl
 rw[List.getElem?_map,hx] at hc;cases hc;exact⟨rfl,hs x (List.mem_of_getElem? hx)⟩
theorem clones_any(l:List bA)(v:Value)(w:World)(hl:l.length<=1000000)(hv:Strs w v l):
  Calls Tryz.prog 242 #[v] w fun e w'=>∃v',e=.returned v'/\w'.ownsRow w.heap.size 9 1 v' l.length (l.map Value.string)/\Below w.heap.size w w':=by
 rcases hv.cases with⟨rfl,a,c,rfl⟩|⟨b,o,c,rfl,h0,h1,h2,hb,hc⟩
 ·cases a with
  |none=>exact(Tryz.slices_Clone_string_nil 0 c w).mono fun e w' h=>⟨_,h.1,by rw[h.2];exact World.ownsRow_nil _ _ _ _,by rw[h.2];exact Below.refl _ _⟩
  |some a=>exact(Tryz.slices_Clone_string_zero a c w).mono fun e w' h=>by obtain⟨v',h1,h2,-,h3⟩:=h;exact⟨v',h1,h2,h3⟩
 refine(Tryz.slices_Clone_string b o l.length c l w (Nat.le_refl _) YM (fun j hj=>?_)).mono fun e w' h=>by obtain⟨v',h1,h2,-,h3⟩:=h;exact⟨v',h1,by simpa using h2,h3⟩
 rw[(hc j _ (List.getElem?_eq_getElem hj)).1,List.getD_eq_getElem?_getD,List.getElem?_eq_getElem hj];rfl
def dI(cb:Nat)(vars:List bA)(x:Xp)(op n:Int)(s m:bA)(vn va:Value)(w:World):Prop:=
 Calls Tryz.prog 244 #[.pointer (some ⟨cb,0,none⟩),kP op n s m vn va] w fun e w'=>∃a k c,e=.returned (nT (gY vars x).op (gY vars x).a (gY vars x).s (gY vars x).m a k c)/\
  pG (bQ w.heap.size) w' (gY vars x) [.int .i64 (gY vars x).op,.int .i64 (gY vars x).a,.string (gY vars x).s,.string (gY vars x).m,.slice a k c]/\Below w.heap.size w w'
theorem gL{N:Nat->Prop}{w:World}{op a:Int}{s m:bA}(hs:s.size<=8000)(hm:m.size<=8000)(h0: -1<=a)(h1:a<=1099511627776):pG N w ⟨op,a,s,m,[]⟩ [.int .i64 op,.int .i64 a,.string s,.string m,.slice none 0 0]:=⟨_,rfl,hs,hm,aO.nil _ _ _ _,h0,h1⟩
theorem eX:noB.size<=8000:=YO
theorem varIdx_range(l:List bA)(s:bA): -1<=kJ l s/\kJ l s<=l.length:=by
 unfold kJ
 cases h:l.findIdx? (fun x=>decide (x=s)) with
 |none=>simp only;omega
 |some k=>
  have:=(List.findIdx?_eq_some_iff_getElem.1 h).1;simp only;omega
theorem plain_3(cb:Nat)(vars:List bA)(n:Int)(s m:bA)(names:List bA)(args:List Xp)(a1:Option Addr)(n1 c1:Nat)(a2:Option Addr)(c2:Nat)(w:World)(hs:s.size<=8000)(hm:m.size<=8000)(hl:args.length<=1000):
  dI cb vars (.mk 3 n s m names args) 3 n s m (.slice a1 n1 c1) (.slice a2 args.length c2) w:=by
 unfold dI;rw[show gY vars (.mk 3 n s m names args)=ins 4 0 from rfl];dsimp only[ins];go_enter Tryz.func244,Tryz.ntmps244;go_wp2_with fail;refine bodyPost_ret (v:=nT 4 0 noB noB none 0 0) ZD rfl ⟨none,0,0,rfl,gL eX eX YM YM,?_⟩;exact VX
theorem plain_4(cb:Nat)(vars:List bA)(n:Int)(s m:bA)(names:List bA)(args:List Xp)(a1:Option Addr)(n1 c1:Nat)(a2:Option Addr)(c2:Nat)(w:World)(hs:s.size<=8000)(hm:m.size<=8000)(hl:args.length<=1000):
  dI cb vars (.mk 4 n s m names args) 4 n s m (.slice a1 n1 c1) (.slice a2 args.length c2) w:=by
 unfold dI;rw[show gY vars (.mk 4 n s m names args)=ins 5 0 from rfl];dsimp only[ins];go_enter Tryz.func244,Tryz.ntmps244;go_wp2_with fail;refine bodyPost_ret (v:=nT 5 0 noB noB none 0 0) ZD rfl ⟨none,0,0,rfl,gL eX eX YM YM,?_⟩;exact VX
theorem plain_5(cb:Nat)(vars:List bA)(n:Int)(s m:bA)(names:List bA)(args:List Xp)(a1:Option Addr)(n1 c1:Nat)(a2:Option Addr)(c2:Nat)(w:World)(hs:s.size<=8000)(hm:m.size<=8000)(hl:args.length<=1000):
  dI cb vars (.mk 5 n s m names args) 5 n s m (.slice a1 n1 c1) (.slice a2 args.length c2) w:=by
 unfold dI;rw[show gY vars (.mk 5 n s m names args)=ins 6 0 from rfl];dsimp only[ins];go_enter Tryz.func244,Tryz.ntmps244;go_wp2_with fail;refine bodyPost_ret (v:=nT 6 0 noB noB none 0 0) ZD rfl ⟨none,0,0,rfl,gL eX eX YM YM,?_⟩;exact VX
theorem plain_6(cb:Nat)(vars:List bA)(n:Int)(s m:bA)(names:List bA)(args:List Xp)(a1:Option Addr)(n1 c1:Nat)(a2:Option Addr)(c2:Nat)(w:World)(hs:s.size<=8000)(hm:m.size<=8000)(hl:args.length<=1000):
  dI cb vars (.mk 6 n s m names args) 6 n s m (.slice a1 n1 c1) (.slice a2 args.length c2) w:=by
 unfold dI;rw[show gY vars (.mk 6 n s m names args)=ins 7 0 from rfl];dsimp only[ins];go_enter Tryz.func244,Tryz.ntmps244;go_wp2_with fail;refine bodyPost_ret (v:=nT 7 0 noB noB none 0 0) ZD rfl ⟨none,0,0,rfl,gL eX eX YM YM,?_⟩;exact VX
theorem plain_7(cb:Nat)(vars:List bA)(n:Int)(s m:bA)(names:List bA)(args:List Xp)(a1:Option Addr)(n1 c1:Nat)(a2:Option Addr)(c2:Nat)(w:World)(hs:s.size<=8000)(hm:m.size<=8000)(hl:args.length<=1000):
  dI cb vars (.mk 7 n s m names args) 7 n s m (.slice a1 n1 c1) (.slice a2 args.length c2) w:=by
 unfold dI;rw[show gY vars (.mk 7 n s m names args)=ins 8 0 from rfl];dsimp only[ins];go_enter Tryz.func244,Tryz.ntmps244;go_wp2_with fail;refine bodyPost_ret (v:=nT 8 0 noB noB none 0 0) ZD rfl ⟨none,0,0,rfl,gL eX eX YM YM,?_⟩;exact VX
theorem plain_10(cb:Nat)(vars:List bA)(n:Int)(s m:bA)(names:List bA)(args:List Xp)(a1:Option Addr)(n1 c1:Nat)(a2:Option Addr)(c2:Nat)(w:World)(hs:s.size<=8000)(hm:m.size<=8000)(hl:args.length<=1000):
  dI cb vars (.mk 10 n s m names args) 10 n s m (.slice a1 n1 c1) (.slice a2 args.length c2) w:=by
 unfold dI;rw[show gY vars (.mk 10 n s m names args)=ins 9 0 from rfl];dsimp only[ins];go_enter Tryz.func244,Tryz.ntmps244;go_wp2_with fail;refine bodyPost_ret (v:=nT 9 0 noB noB none 0 0) ZD rfl ⟨none,0,0,rfl,gL eX eX YM YM,?_⟩;exact VX
theorem plain_14(cb:Nat)(vars:List bA)(n:Int)(s m:bA)(names:List bA)(args:List Xp)(a1:Option Addr)(n1 c1:Nat)(a2:Option Addr)(c2:Nat)(w:World)(hs:s.size<=8000)(hm:m.size<=8000)(hl:args.length<=1000):
  dI cb vars (.mk 14 n s m names args) 14 n s m (.slice a1 n1 c1) (.slice a2 args.length c2) w:=by
 unfold dI;rw[show gY vars (.mk 14 n s m names args)=⟨13,0,s,noB,[]⟩ from rfl];dsimp only[ins];go_enter Tryz.func244,Tryz.ntmps244;go_wp2_with fail;refine bodyPost_ret (v:=nT 13 0 s noB none 0 0) ZD rfl ⟨none,0,0,rfl,gL hs eX YM YM,?_⟩;exact VX
theorem plain_15(cb:Nat)(vars:List bA)(n:Int)(s m:bA)(names:List bA)(args:List Xp)(a1:Option Addr)(n1 c1:Nat)(a2:Option Addr)(c2:Nat)(w:World)(hs:s.size<=8000)(hm:m.size<=8000)(hl:args.length<=1000):
  dI cb vars (.mk 15 n s m names args) 15 n s m (.slice a1 n1 c1) (.slice a2 args.length c2) w:=by
 unfold dI;rw[show gY vars (.mk 15 n s m names args)=⟨14,args.length,s,m,[]⟩ from rfl];dsimp only[ins];go_enter Tryz.func244,Tryz.ntmps244;go_wp2_with fail;refine bodyPost_ret (v:=nT 14 (args.length:Int) s m none 0 0) ZD rfl ⟨none,0,0,rfl,gL hs hm YM YM,?_⟩;exact VX
theorem plain_16(cb:Nat)(vars:List bA)(n:Int)(s m:bA)(names:List bA)(args:List Xp)(a1:Option Addr)(n1 c1:Nat)(a2:Option Addr)(c2:Nat)(w:World)(hs:s.size<=8000)(hm:m.size<=8000)(hl:args.length<=1000)(h0:0<=n)(h8:n<=8):
  dI cb vars (.mk 16 n s m names args) 16 n s m (.slice a1 n1 c1) (.slice a2 args.length c2) w:=by
 unfold dI;rw[show gY vars (.mk 16 n s m names args)=ins 15 n from rfl];dsimp only[ins];go_enter Tryz.func244,Tryz.ntmps244;go_wp2_with fail;refine bodyPost_ret (v:=nT 15 n noB noB none 0 0) ZD rfl ⟨none,0,0,rfl,gL eX eX YM YM,?_⟩;exact VX
theorem plain_13(cb:Nat)(vars:List bA)(n:Int)(s m:bA)(names:List bA)(args:List Xp)(vn:Value)(a2:Option Addr)(n2 c2:Nat)(w:World)(hl:names.length<=1000000)(hn:Strs w vn names):
  dI cb vars (.mk 13 n s m names args) 13 n s m vn (.slice a2 n2 c2) w:=by
 unfold dI;rw[show gY vars (.mk 13 n s m names args)=⟨12,0,noB,noB,names⟩ from rfl];dsimp only;have tK:∀x,x∈names->x.size<=140737488355328:=fun x hx=>oL hn hx;obtain⟨a1,c1,rfl⟩:=oT hn;have hb:=aC (aA w (aN 13 n s m a1 names.length c1 a2 n2 c2)) (aA (w.alloc (aN 13 n s m a1 names.length c1 a2 n2 c2)) (eQ 0 0 noB noB none 0 0));have HC:=zh (clones_any names _ _ hl (hn.later hb));have MK:=zh (bY (w.alloc (aN 13 n s m a1 names.length c1 a2 n2 c2)) (eQ 0 0 noB noB none 0 0));have NF:(w.alloc (aN 13 n s m a1 names.length c1 a2 n2 c2)).heap.size=w.heap.size+1:=YR;rw[NF] at MK;have hws:=hb.size;have HB:=zh hb;clear hn hb;go_enter Tryz.func244,Tryz.ntmps244;go_wp2_with(go_at_call 242;refine HC.out.mono ?_;rintro e w1 ⟨v1,rfl,rP,rR⟩;have sJ:=zh (rowS_of_owns rP rR.size tK);obtain⟨a3,c3,e3,-⟩:=sJ.out;subst e3;have sT:=zh rR;obtain⟨⟨p0,p1,p2,p3,p4⟩,f0,f1,f2,f3,f4⟩:=bx5 (aH rR MK.out);clear rP rR);have QW:=setI5_heap (aH sT.out MK.out) (.int .i64 12) (.int .i64 0) (.string noB) (.string noB) (.slice a3 names.length c3);have sC:=setI5_off w1 (w.heap.size+1) (.int .i64 12) (.int .i64 0) (.string noB) (.string noB) (.slice a3 names.length c3);obtain⟨⟨k0,k1,k2,k3,k4⟩,-⟩:=bx5 QW;unfold setI5 at k0 k1 k2 k3 k4 sC;refine bodyPost_ret (v:=nT 12 0 noB noB a3 names.length c3) (by simp[results,Tryz.results244,go_sem,k0,k1,k2,k3,k4]) rfl ⟨a3,names.length,c3,rfl,⟨_,rfl,eX,eX,?_,(by decide:(-1:Int)<=0),(by decide:(0:Int)<=1099511627776)⟩,?_⟩
 ·refine sJ.out.moves aV (fun b hb _=>?_) YO;have hb:((w.alloc (aN 13 n s m a1 names.length c1 a2 n2 c2)).alloc (eQ 0 0 noB noB none 0 0)).heap.size<=b:=hb;simp at hb;exact⟨by show w.heap.size<=b;omega,fun o u hu=>sC.cell (fun e=>YM) hu⟩
 exact XV
theorem plain_18{B cb:Nat}{vars:List Fld}{vv v:Value}{c:Cmp}{css:List (List Value)}(n:Int)(s m:bA)(names:List bA)(args:List Xp)(a1:Option Addr)(n1 c1:Nat)(a2:Option Addr)(n2 c2:Nat)(w:World)(h:Cp B cb vars vv c css v w):
  dI cb (vars.map (·.1)) (.mk 18 n s m names args) 18 n s m (.slice a1 n1 c1) (.slice a2 n2 c2) w:=by
 unfold dI;rw[show gY (vars.map (·.1)) (.mk 18 n s m names args)=ins 17 (kJ (vars.map (·.1)) s) from rfl];dsimp only[ins];have hb:=aC (aA w (aN 18 n s m a1 n1 c1 a2 n2 c2)) (aA (w.alloc (aN 18 n s m a1 n1 c1 a2 n2 c2)) (eQ 0 0 noB noB none 0 0));have h2:=h.later hb;have HV:=zh (variable_any cb vars _ vv _ _ s _ h2.box h2.row);have hvi:=varIdx_range (vars.map (·.1)) s;rw[List.length_map] at hvi;have hnv:=h.nv;generalize kJ (vars.map (·.1)) s=r at HV hvi ⊢;have MK:=zh (bY (w.alloc (aN 18 n s m a1 n1 c1 a2 n2 c2)) (eQ 0 0 noB noB none 0 0));have NF:(w.alloc (aN 18 n s m a1 n1 c1 a2 n2 c2)).heap.size=w.heap.size+1:=YR;rw[NF] at MK;have hws:=hb.size;have HB:=zh hb;clear h h2 hb;go_enter Tryz.func244,Tryz.ntmps244;go_wp2_with(go_at_call 240;refine HV.out.mono ?_;rintro e w1 ⟨rfl,rR⟩;have sT:=zh rR;obtain⟨⟨p0,p1,p2,p3,p4⟩,f0,f1,f2,f3,f4⟩:=bx5 (aH rR MK.out);clear rR);have QW:=setI5_heap (aH sT.out MK.out) (.int .i64 17) (.int .i64 r) (.string noB) (.string noB) (.slice none 0 0);have sC:=setI5_off w1 (w.heap.size+1) (.int .i64 17) (.int .i64 r) (.string noB) (.string noB) (.slice none 0 0);obtain⟨⟨k0,k1,k2,k3,k4⟩,-⟩:=bx5 QW;unfold setI5 at k0 k1 k2 k3 k4 sC;refine bodyPost_ret (v:=nT 17 r noB noB none 0 0) (by simp[results,Tryz.results244,go_sem,k0,k1,k2,k3,k4]) rfl ⟨none,0,0,rfl,gL eX eX YM YM,?_⟩;exact XV
end Go.Proofs.YtiionicikdnnpaaGreatDoor
