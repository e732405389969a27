/- Texts of this seat, joined. -/
import Derived.Test.YtmpopphjaggeoaaGreatDoorGaF
set_option maxHeartbeats 64000000
set_option maxRecDepth 100000
set_option linter.unusedVariables false
set_option linter.unusedSimpArgs false
set_option linter.constructorNameAsVariable false
namespace Go.Proofs.YtmpopphjaggeoaaGreatDoor
open Go.RowKit Go.Shelf
def bS(n:Int):List UInt8:=if n<0 then[] else Lib.itoa n++[59]
def bW(s:bA):List UInt8:=Lib.itoa (s.size:Int)++[58]++s.data.toList++[44]
def fX(l:List Int):List UInt8:=l.flatMap fun n=>Lib.itoa n++[59]
def numsW(l:List Int):List UInt8:=Lib.itoa (l.length:Int)++[91]++fX l++[93]
def verW(v:Ver):List UInt8:=bS v.a++bS v.b++bS v.c
def aO(n:Int):Prop:= -9223372036854775808<=n/\n<=9223372036854775807
theorem bV{n:Int}(h:aO n):(bs (bS n)).size<=22:=by
 have e:(bs (bS n)).size=(bS n).length:=rfl;rw[e];unfold bS;split
 ·simp
 have:=Lib.itoa_length_le n h.1 h.2;simp;omega
theorem fG{s:bA}(h:s.size<=140737488355328):(bs (bW s)).size<=s.size+23:=by
 have e:(bs (bW s)).size=(bW s).length:=rfl;rw[e];unfold bW;have:=Lib.itoa_length_le (s.size:Int) CR CR;have h2:s.data.toList.length=s.size:=EW;simp only[List.length_append,List.length_cons,List.length_nil,h2];omega
theorem intsW_len:∀(l:List Int),(∀x∈l,aO x)->(fX l).length<=l.length*22
 |[],_=>by simp[fX]
 |x::r,h=>by
  have h1:=intsW_len r (fun y hy=>h y (by simp[hy]));have h2:=Lib.itoa_length_le x (h x C0).1 (h x C0).2;unfold fX at h1 ⊢;simp only[List.flatMap_cons,List.length_append,List.length_cons,List.length_nil] at h1 ⊢;omega
theorem intsW_take{l:List Int}{k:Nat}{x:Int}(hx:l[k]? =some x):fX (l.take (k+1))=fX (l.take k)++(Lib.itoa x++[59]):=by
 simp[fX,List.take_add_one,hx]
theorem dS(n:Int)(w:World)(hG:bC w)(h:aO n):
  Calls Tryz.prog 40 #[.int .i64 n] w fun e w'=>e=.returned (.string (bs (bS n)))/\Below w.heap.size w w':=by
 by_cases h0:n<0
 ·have HE:Hid (bS n=[]):=zh (by unfold bS;rw[if_pos h0]);clear hG h;go_enter Tryz.func40,Tryz.ntmps40;go_wp2_with fail;go_ret;exact⟨bF ER,Below.refl _ _⟩
 have HI:=zh (wireInt_any n w hG h.1 h.2);have HE:Hid (wireInt n=bs (bS n)):=zh (by unfold bS;rw[if_neg h0];rfl);clear hG h;go_enter Tryz.func40,Tryz.ntmps40;go_wp2_with fail;go_at_call 88;refine HI.out.mono ?_;rintro e w1 ⟨rfl,hb⟩;go_wp2_with fail;go_ret;exact⟨bF HE.out,hb⟩
theorem gF(s:bA)(w:World)(hG:bC w)(h:s.size<=140737488355328):
  Calls Tryz.prog 39 #[.string s] w fun e w'=>e=.returned (.string (bs (bW s)))/\Below w.heap.size w w':=by
 have HI:=zh (Tryz.strconv_Itoa (s.size:Int) CR CR w hG.pow10);have hl:=Lib.itoa_length_le (s.size:Int) CR CR
 have HE:Hid (((((⟨(Lib.itoa (s.size:Int)).toArray⟩:bA)++⟨#[58]⟩)++s)++⟨#[44]⟩)=bs (bW s)):=zh (by
  apply cU
  simp[bW,bs,ByteArray.data_append])
 have hz:(⟨(Lib.itoa (s.size:Int)).toArray⟩:bA).size<=21:=hl;clear hG hl;generalize bs (bW s)=res at *;go_enter Tryz.func39,Tryz.ntmps39;go_wp2_with fail;go_at_call 87;refine HI.out.mono ?_;rintro e w1 ⟨rfl,k,os,rfl⟩;have hb:Below w.heap.size w (Sort.grow (w.drewN k) os):=Lib.below_grow _ w (Nat.le_refl _) k os;generalize Sort.grow (w.drewN k) os=w1 at hb;generalize (⟨(Lib.itoa (s.size:Int)).toArray⟩:bA)=it at *;have hd1:(⟨#[58]⟩:bA).size=1:=rfl;have hd2:(⟨#[44]⟩:bA).size=1:=rfl;have nU:(it++⟨#[58]⟩).size<=22:=CY;have tM:((it++⟨#[58]⟩)++s).size<=s.size+22:=CY;clear HI;go_wp2_with fail;go_ret;exact⟨bF HE.out,hb⟩
theorem isB_later{B b:Nat}{bs:List Value}{w w':World}(h:Lib.IsBuilder 131 5 B b bs w)(hb:Below w.heap.size w w'):Lib.IsBuilder 131 5 B b bs w':=by
 have hk:w.grownBy w' none:=⟨hb.os,hb.tape,hb.output,hb.size,fun k hk _=>hb.block k hk⟩
 have step:∀p,Lib.BuilderAt 131 5 B b p bs w->Lib.BuilderAt 131 5 B b p bs w':=fun p hp=>by
  obtain⟨hB,v,hbk,jY,kQ⟩:=hp;refine⟨hB,v,aC hb hbk,jY.kept hk ?_,kQ⟩
  cases hv:v.ownBlock with
  |none=>exact .inl rfl
  |some k=>exact .inr (fun e=>by cases e)
 exact h.elim (fun h=>.inl (step _ h)) (fun h=>.inr (step _ h))
def lhead(l:List Int):List UInt8:=Lib.itoa (l.length:Int)++[91]
theorem wlistI_any(l:List Int)(v:Value)(w:World)(hG:bC w)(hv:Ints w v l)(hl:l.length<=1000)(hr:∀x∈l,aO x):
  Calls Tryz.prog 94 #[v,.func (.func 88) #[] #[]] w fun e w'=>e=.returned (.string (bs (numsW l)))/\Below w.heap.size w w':=by
 obtain⟨a,c,rfl,jH,mG,hx0⟩:=id hv;have HX:=zh hx0;have HR:=zh hr;have HI:=zh (fun W(hW:Below w.heap.size w W)=>Tryz.strconv_Itoa (l.length:Int) CR CR W (hG.later hW).pow10);have HO:=zh (fun(x:Int)(hx:aO x)W(hW:Below w.heap.size w W)=>wireInt_any x W (hG.later hW) hx.1 hx.2);have hil:=Lib.itoa_length_le (l.length:Int) CR CR;have HLn:=zh (intsW_len l hr)
 have HLt:Hid (∀k,(fX (l.take k)).length<=22000):=zh (fun k=>by
  have h1:=intsW_len (l.take k) (fun x hx=>hr x (List.mem_of_mem_take hx));have h2:(l.take k).length<=l.length:=EX
  omega)
 have hhd:(lhead l).length<=22:=by unfold lhead;simp;omega
 have HH:Hid ((⟨(Lib.itoa (l.length:Int)).toArray⟩:bA)++⟨#[91]⟩=bs (lhead l)):=zh (bytes_append (Lib.itoa (l.length:Int)) [91])
 have HE:Hid (∀r:List UInt8,r=lhead l++fX l->(⟨r.toArray⟩:bA)++⟨#[93]⟩=bs (numsW l)):=zh (fun r e=>by
  rw[bytes_append r [93],e];simp[numsW,lhead,bs])
 clear hv hx0 hr hG;have hz:(⟨(Lib.itoa (l.length:Int)).toArray⟩:bA).size<=21:=hil;have jD:=zh (aB w (.cells #[.pointer none,.slice none 0 0] 131));go_enter Tryz.func94,Tryz.ntmps94;go_wp2_with fail;go_at_call 87;refine(HI.out _ jD.out).mono ?_;rintro e w1 ⟨rfl,k,os,rfl⟩;have kK:=Lib.below_grow _ (w.alloc (.cells #[.pointer none,.slice none 0 0] 131)) (Nat.le_refl _) k os;have HBd:=zh (isB_later (Lib.fresh_isBuilder 131 5 w) kK);have jL:=zh (aA jD.out kK);clear kK;generalize Sort.grow ((w.alloc (.cells #[.pointer none,.slice none 0 0] 131)).drewN k) os=w1 at *;generalize (⟨(Lib.itoa (l.length:Int)).toArray⟩:bA)=it at *;have nU:(it++⟨#[91]⟩).size<=22:=by have:(⟨#[91]⟩:bA).size=1:=rfl;rw[ByteArray.size_append];omega
 have hsz1:w.heap.size<=w1.heap.size:=jL.out.size;go_wp2_with fail;go_at_call 89;have kU:([]:List Value).length+(it++⟨#[91]⟩).size<=140737488355328:=by have h9:=nU;simp only[List.length_nil];omega
 have HWS:=zh (writeString_any w.heap.size w.heap.size [] (it++⟨#[91]⟩) w1 HBd.out kU hsz1);refine HWS.out.mono ?_;rintro e w2 ⟨rfl,hB2,jP⟩;have HBd2:Hid (Lib.IsBuilder 131 5 w.heap.size w.heap.size (Lib.byteCells (lhead l)) w2):=zh (.inr (by rw[HH.out] at hB2;exact hB2));have jF:=zh (jL.out.trans jP);clear hB2 jP HBd;go_wp2_with fail;go_loopw [15] (fun iv wr=>∃k:Nat,k<=l.length/\iv=.int .i64 (k:Int)/\Hid (Lib.IsBuilder 131 5 w.heap.size w.heap.size (Lib.byteCells (lhead l++fX (l.take k))) wr)/\Hid (Below w.heap.size w wr)) (fun iv _=>l.length-(intOf iv).toNat)
 case atStart=>exact⟨0,Nat.zero_le _,rfl,zh (by simpa[fX] using HBd2.out),jF⟩
 case round=>
  obtain⟨k,hk,rfl,HB,HW⟩:=hrel;rename World=>wr
  by_cases jM:k<l.length
  ·obtain⟨x,hx,mT⟩:=getElem?_of_lt jM;have nN:(0:Int)<=(k:Int)/\(k:Int)<(l.length:Int):=CR;obtain⟨b,o,wP,uA⟩:=HX.out EM;subst wP
   have c1:wr.cell? ⟨b,o+k,none⟩=some (.int .i64 x):=by
    obtain⟨cs,e,-,hh⟩:=uA k x hx;have h9:=hh 0 _ (by rw[show cs=[.int .i64 x] from e];rfl);exact aD HW.out (by simpa using h9)
   have HOx:=zh (HO.out x (HR.out x mT) wr HW.out)
   have hwz:(wireInt x).size<=22:=by
    have e:(wireInt x).size=(Lib.itoa x++[59]).length:=rfl;have:=Lib.itoa_length_le x (HR.out x mT).1 (HR.out x mT).2;rw[e];simp;omega
   have HT:=zh (intsW_take hx);have hlk:=HLt.out k;clear uA hx mT;go_wp2_with fail;go_at_call 88;refine HOx.out.mono ?_;rintro e w3 ⟨rfl,kX⟩;have kH:=zh (isB_later HB.out kX);have HW3:=zh (aA HW.out kX);have hsz3:=HW3.out.size;(have xP:(Lib.byteCells (lhead l++fX (l.take k))).length+(wireInt x).size<=140737488355328:=by rw[Lib.byteCells_length,List.length_append];omega);have HWS3:=zh (writeString_any w.heap.size w.heap.size _ (wireInt x) w3 kH.out xP hsz3);clear kX c1 xP;go_wp2_with fail;go_at_call 89;refine HWS3.out.mono ?_;rintro e w4 ⟨rfl,hB4,pV⟩;have oZ:Hid (Lib.IsBuilder 131 5 w.heap.size w.heap.size (Lib.byteCells (lhead l++fX (l.take (k+1)))) w4):=zh (.inr (by rw[HT.out,<-List.append_assoc,Lib.byteCells_append];exact hB4));have AC:=zh (HW3.out.trans pV);clear hB4 pV;go_wp2_with fail;go_roundw;(case rel=>exact⟨k+1,CR,C5,oZ,AC⟩);case measure=>simp[intOf];omega
  have hk':l.take k=l:=List.take_of_length_le CR;have hlk:=HLt.out l.length;rw[List.take_length] at hlk;rw[hk'] at HB;clear hk';have mO:=HW.out.size;have HST:=zh (Tryz.Builder_String_any w.heap.size w.heap.size _ _ HB.out mO);have hrz:(⟨(lhead l++fX l).toArray⟩:bA).size<=30000:=by show(lhead l++fX l).length<=30000;rw[List.length_append];omega
  go_wp2_with fail;go_at_call 91;refine HST.out.mono ?_;rintro e w5 ⟨rfl,hb5⟩;have hd9:(⟨#[93]⟩:bA).size=1:=rfl;have HEr:=zh (HE.out _ rfl);go_wp2_with fail;go_ret;exact⟨bF HEr.out,HW.out.trans hb5⟩
theorem wnums_any(l:List Int)(v:Value)(w:World)(hG:bC w)(hv:Ints w v l)(hl:l.length<=1000)(hr:∀x∈l,aO x):
  Calls Tryz.prog 45 #[v] w fun e w'=>e=.returned (.string (bs (numsW l)))/\Below w.heap.size w w':=by
 have HL:=zh (wlistI_any l v w hG hv hl hr);obtain⟨a,c,rfl,-⟩:=id hv;clear hv hG hr;go_enter Tryz.func45,Tryz.ntmps45;go_wp2_with fail;go_at_call 94;refine HL.out.mono ?_;rintro e w' ⟨rfl,hb⟩;go_wp2_with fail;go_ret;exact⟨rfl,hb⟩
theorem fnumber_any(v:Ver)(w:World)(hG:bC w)(h:aO v.a/\aO v.b/\aO v.c):
  Calls Tryz.prog 42 #[.agg #[.int .i64 v.a,.int .i64 v.b,.int .i64 v.c]] w fun e w'=>e=.returned (.string (bs (verW v)))/\Below w.heap.size w w':=by
 have HA:=zh (aB w (.cells #[.int .i64 v.a,.int .i64 v.b,.int .i64 v.c] 23));have HX:=zh (bY w (.cells #[.int .i64 v.a,.int .i64 v.b,.int .i64 v.c] 23));have HNu:=zh (fun W(hb:Below w.heap.size w W)=>dS v.a W (hG.later hb) h.1);have HNu2:=zh (fun W(hb:Below w.heap.size w W)=>dS v.b W (hG.later hb) h.2.1);have HNu3:=zh (fun W(hb:Below w.heap.size w W)=>dS v.c W (hG.later hb) h.2.2);have lF:=bV h.1;have nO:=bV h.2.1;have hz3:=bV h.2.2
 have HE:Hid (((bs (bS v.a)++bs (bS v.b))++bs (bS v.c))=bs (verW v)):=zh (by
  apply cU
  simp[verW,bs,ByteArray.data_append])
 clear hG h;generalize bs (verW v)=res at *;generalize bs (bS v.a)=s1 at *;generalize bs (bS v.b)=s2 at *;generalize bs (bS v.c)=s3 at *;have qR:(s1++s2).size<=44:=CY;have qQ:((s1++s2)++s3).size<=66:=CY;go_enter Tryz.func42,Tryz.ntmps42;go_wp2_with fail;generalize w.alloc (.cells #[.int .i64 v.a,.int .i64 v.b,.int .i64 v.c] 23)=W0 at *;refine wp_region_held_drew (S:=fun W=>Below W0.heap.size W0 W) CQ (aL W0) fun hS=>?_;refine zq 0 (.pointer (some ⟨w.heap.size,0,none⟩)) rfl ?_;refine zt 1 (.int .i64 v.a) rfl (fun W hW=>EI) ?_;refine zq 3 (.pointer (some ⟨w.heap.size,1,none⟩)) rfl ?_;refine zt 4 (.int .i64 v.b) rfl (fun W hW=>EI) ?_;refine zq 7 (.pointer (some ⟨w.heap.size,2,none⟩)) rfl ?_;refine zt 8 (.int .i64 v.c) rfl (fun W hW=>EI) ?_;try simp only[zn]
 refine zr 2 rfl (fun K hK=>?_);try simp only[z1,z2,z3]
 go_simp;have iM:=(aL W0);refine(HNu.out _ (aA HA.out iM)).mono ?_;rintro e c1 ⟨rfl,jT⟩;have jH:=aA iM jT;clear iM jT;refine hK.out _ _ jH (fun hS=>?_);clear hK K;try simp only[zn]
 refine zr 5 rfl (fun K hK=>?_);try simp only[z1,z2,z3]
 go_simp;have iM:=jH;refine(HNu2.out _ (aA HA.out iM)).mono ?_;rintro e c2 ⟨rfl,jT⟩;have mG:=aA iM jT;clear iM jT;refine hK.out _ _ mG (fun hS=>?_);clear hK K;refine zt 6 (.string (s1++s2)) rfl (fun W hW=>C1) ?_;try simp only[zn]
 refine zr 9 rfl (fun K hK=>?_);try simp only[z1,z2,z3]
 go_simp;have iM:=mG;refine(HNu3.out _ (aA HA.out iM)).mono ?_;rintro e c3 ⟨rfl,jT⟩;have nV:=aA iM jT;clear iM jT;refine hK.out _ _ nV (fun hS=>?_);clear hK K;refine zt 10 (.string ((s1++s2)++s3)) rfl (fun W hW=>C1) ?_;refine zq 11 (.string ((s1++s2)++s3)) rfl ?_;try simp only[zn]
 refine wpAnyH_done CQ ?_ _;go_wp2_with fail;go_ret;exact⟨bF HE.out,aA HA.out nV⟩
def bodyW(f:Fc):List UInt8:=if f.kind=1\/f.kind=2 then bW f.name++verW f.ver else if f.kind=7 then bW f.name++verW f.ver++bS f.print else bW f.name++numsW f.keys++bS f.need++bS f.til
noncomputable def dT (f:Fc):List UInt8:=bW (bM f)++bS f.kind++bS f.time++bodyW f
noncomputable def bO (f:Fc):bA×Int:=if aJ f then(if 20000<(dT f).length then(noB,6) else(bs (dT f),0)) else(noB,1)
theorem bs_size(l:List UInt8):(bs l).size=l.length:=rfl
theorem keyF_size{f:Fc}(h:aJ f=true):(bM f).size<=100:=by
 obtain⟨hn,hv,-⟩:=eI h;have h1:=fZ hn;have h2:=verB_size hv;rw[fA h,bs_size,keyL_form];rw[bs_size] at h2
 have h3:(wordL (eN f)).length<=8:=by
  unfold wordL
  repeat' split
  all_goals decide
 have h4:(tailL (eN f) (fJ f)).length<=66:=by
  unfold tailL;split
  ·simp
  simp;omega
 have h5:(dZ f).data.toList.length=(dZ f).size:=EW;simp only[List.length_append];omega
theorem name_of{f:Fc}(h:aJ f=true)(h0:f.kind≠0)(h3:f.kind≠3):bT f.name=true/\aU f.ver=true:=by
 obtain⟨hn,hv,-⟩:=eI h;unfold dZ at hn;unfold fJ at hv;rw[if_neg h0,if_neg h3] at hn hv;exact⟨hn,hv⟩
theorem sums_bs(l m:List UInt8):bs l++bs m=bs (l++m):=by
 apply cU;simp[bs,ByteArray.data_append]
theorem verOk_int{v:Ver}(h:aU v=true):aO v.a/\aO v.b/\aO v.c:=by
 unfold aU at h;simp only[Bool.and_eq_true,decide_eq_true_eq] at h;unfold aO;omega
theorem verW_size{v:Ver}(h:aO v.a/\aO v.b/\aO v.c):(bs (verW v)).size<=66:=by
 have h1:=bV h.1;have h2:=bV h.2.1;have h3:=bV h.2.2;rw[bs_size] at *;unfold verW;simp only[List.length_append];omega
theorem text_1(f:Fc){N:Nat->Prop}{p:FcP}(w:World)(hG:bC w)(h:FcV N w f p)(hf:f.rel.feats.length<=1000000)(kO:aJ f=true)(ho:f.kind=1\/f.kind=2):
  Calls Tryz.prog 14 #[.agg (fcC f p).toArray] w fun e w'=>e=.returned (.tuple #[.string (bO f).1,.int .i64 (bO f).2])/\Below w.heap.size w w':=by
 obtain⟨A,HA⟩:∃c:Array Value,Hid (c=(fcC f p).toArray):=⟨_,zh rfl⟩;have kA:Hid (A.size=29):=zh CW;have nK:Hid (A[0]? =some (.int .i64 f.kind)):=zh CW;have pP:Hid (A[1]? =some (.string f.name)):=zh CW;have qB:Hid (A[2]? =some (.int .i64 f.ver.a)):=zh CW;have tS:Hid (A[3]? =some (.int .i64 f.ver.b)):=zh CW;have uT:Hid (A[4]? =some (.int .i64 f.ver.c)):=zh CW;have pX:Hid (A[24]? =some (p.vk)):=zh CW;have qN:Hid (A[25]? =some (.int .i64 f.need)):=zh CW;have tI:Hid (A[26]? =some (.int .i64 f.til)):=zh CW;have tH:Hid (A[27]? =some (.int .i64 f.print)):=zh CW;have uU:Hid (A[28]? =some (.int .i64 f.time)):=zh CW;have HR:Hid (∀W,Below w.heap.size w W->Calls Tryz.prog 9 #[.agg A] W fun e w'=>e=.returned (.bool true)/\Below W.heap.size W w'):=zh (fun W hb=>DE);have HK:Hid (∀W,Below w.heap.size w W->Calls Tryz.prog 13 #[.agg A] W fun e w'=>e=.returned (.string (bM f))/\Below W.heap.size W w'):=zh (fun W hb=>DZ);have hkz:=keyF_size kO;have hpt:=bD kO;have nB:=name_of kO CR CR;have zB:=fZ nB.1;have sW:Hid (∀W,Below w.heap.size w W->Calls Tryz.prog 39 #[.string (bM f)] W fun e w'=>e=.returned (.string (bs (bW (bM f))))/\Below W.heap.size W w'):=zh (fun W hb=>gF _ W (hG.later hb) CR);have uY:Hid (∀W,Below w.heap.size w W->Calls Tryz.prog 40 #[.int .i64 f.kind] W fun e w'=>e=.returned (.string (bs (bS f.kind)))/\Below W.heap.size W w'):=zh (fun W hb=>dS _ W (hG.later hb) (by rcases ho with h9|h9<;>(unfold aO;omega)));have nX:Hid (∀W,Below w.heap.size w W->Calls Tryz.prog 40 #[.int .i64 f.time] W fun e w'=>e=.returned (.string (bs (bS f.time)))/\Below W.heap.size W w'):=zh (fun W hb=>dS _ W (hG.later hb) C2);have pW:Hid (∀W,Below w.heap.size w W->Calls Tryz.prog 39 #[.string f.name] W fun e w'=>e=.returned (.string (bs (bW f.name)))/\Below W.heap.size W w'):=zh (fun W hb=>gF _ W (hG.later hb) h.name);have zk:=fG (show(bM f).size<=140737488355328 by omega);have z1:=bV (n:=f.kind) (by rcases ho with h9|h9<;>(unfold aO;omega));have z2:=bV (n:=f.time) C2;have z3:=fG h.name;have yT:=verOk_int nB.2;have HV:Hid (∀W,Below w.heap.size w W->Calls Tryz.prog 42 #[.agg #[.int .i64 f.ver.a,.int .i64 f.ver.b,.int .i64 f.ver.c]] W fun e w'=>e=.returned (.string (bs (verW f.ver)))/\Below W.heap.size W w'):=zh (fun W hb=>fnumber_any _ W (hG.later hb) yT);have z4:=verW_size yT;clear yT;have HE:Hid (((bs (bW (bM f))++bs (bS f.kind))++bs (bS f.time))++(bs (bW f.name)++bs (verW f.ver))=bs (dT f)):=zh (by rcases ho with h9|h9<;>(unfold dT bodyW verW;simp[sums_bs,h9,List.append_assoc]));have kU:(bs (dT f)).size=(dT f).length:=rfl;have HP:Hid (bO f=if 20000<(bs (dT f)).size then(noB,6) else(bs (dT f),0)):=zh (by unfold bO;rw[if_pos kO];rfl);rw[<-HA.out];clear hpt nB kU h hG hf HA;have vN:Hid (f.kind=1\/f.kind=2):=zh ho;clear ho kO;generalize bO f=res at *;generalize bs (dT f)=full at *;generalize bs (verW f.ver)=s4 at *;generalize tQ:bM f=kk at *;generalize bs (bW kk)=tk at *;generalize bs (bS f.kind)=s1 at *;generalize bs (bS f.time)=s2 at *;generalize bs (bW f.name)=s3 at *;clear tQ;generalize f.kind=k at *;generalize f.name=nm at *;generalize f.ver=v at *;generalize f.need=nd at *;generalize f.til=ut at *;generalize f.print=pr at *;generalize f.time=tm at *;generalize p.vk=vk at *;go_enter Tryz.func14,Tryz.ntmps14
 go_upto_region 1 with(fail)
 have iN:=zh (bY w (.cells A 37));have qG:=zh (aB w (.cells A 37));generalize w.alloc (.cells A 37)=Wa at *;go_wp2_with(refine aN (x:=.tmp 1) rfl CQ w.heap.size rfl A iN.out kA.out ?_);go_at_call 9;refine(HR.out _ qG.out).mono ?_;rintro e w1 ⟨rfl,kK⟩;have jL:=zh (aA qG.out kK);have jI:=zh (aC kK iN.out);clear kK;go_wp2_with fail;have qR:(tk++s1).size<=145:=CY;have qQ:((tk++s1)++s2).size<=167:=CY;refine wp_region_held_drew (S:=fun W=>Below w1.heap.size w1 W) CQ (aL w1) fun hS=>?_;refine wpAnyH_take (i:=0) (v:=.agg A) rfl CQ CQ CQ (fun _ _ _ h=>h) (yF CQ (x:=.tmp 1) rfl rfl kA.out (fun W hW=>aC hW jI.out)) hS ?_;refine zq 3 (.pointer (some ⟨w.heap.size,0,none⟩)) rfl ?_;refine zt 4 (.int .i64 k) rfl (fun W hW=>EU) ?_;refine zq 7 (.pointer (some ⟨w.heap.size,28,none⟩)) rfl ?_;refine zt 8 (.int .i64 tm) rfl (fun W hW=>ET) ?_;try simp only[zn]
 refine zr 1 rfl (fun K hK=>?_);try simp only[z1,z2,z3]
 go_simp;have iM:=(aL w1);refine(HK.out _ (aA jL.out iM)).mono ?_;rintro e c1 ⟨rfl,jT⟩;have jH:=aA iM jT;clear iM jT;refine hK.out _ _ jH (fun hS=>?_);clear hK K;try simp only[zn]
 refine zr 2 rfl (fun K hK=>?_);try simp only[z1,z2,z3]
 go_simp;have iM:=jH;refine(sW.out _ (aA jL.out iM)).mono ?_;rintro e c2 ⟨rfl,jT⟩;have mG:=aA iM jT;clear iM jT;refine hK.out _ _ mG (fun hS=>?_);clear hK K;try simp only[zn]
 refine zr 5 rfl (fun K hK=>?_);try simp only[z1,z2,z3]
 go_simp;have iM:=mG;refine(uY.out _ (aA jL.out iM)).mono ?_;rintro e c3 ⟨rfl,jT⟩;have nV:=aA iM jT;clear iM jT;refine hK.out _ _ nV (fun hS=>?_);clear hK K;refine zt 6 (.string (tk++s1)) rfl (fun W hW=>C1) ?_;try simp only[zn]
 refine zr 9 rfl (fun K hK=>?_);try simp only[z1,z2,z3]
 go_simp;have iM:=nV;refine(nX.out _ (aA jL.out iM)).mono ?_;rintro e c4 ⟨rfl,jT⟩;have oJ:=aA iM jT;clear iM jT;refine hK.out _ _ oJ (fun hS=>?_);clear hK K;refine zt 10 (.string ((tk++s1)++s2)) rfl (fun W hW=>C1) ?_;refine zq 11 (.string ((tk++s1)++s2)) rfl ?_;try simp only[zn]
 refine wpAnyH_done CQ ?_ _;have jF:=zh (aA jL.out oJ);have nP:=zh (aC oJ jI.out);clear jH mG nV oJ jI jL iN qG;skip;have nE:=vN.out;clear vN;rcases nE with rfl|rfl
 all_goals
  have c0:=cfA nP.out nK.out;go_wp2_with fail;clear c0;have qR:(s3++s4).size<=109:=CY;have qQ:(((tk++s1)++s2)++(s3++s4)).size<=276:=CY;refine wp_region_held_drew (S:=fun W=>Below c4.heap.size c4 W) CQ (aL c4) fun hS=>?_;refine zq 0 (.string ((tk++s1)++s2)) rfl ?_;refine zq 1 (.pointer (some ⟨w.heap.size,1,none⟩)) rfl ?_;refine zt 2 (.string nm) rfl (fun W hW=>EV) ?_;refine zq 4 (.pointer (some ⟨w.heap.size,2,none⟩)) rfl ?_;refine zt 5 (.agg #[.int .i64 v.a,.int .i64 v.b,.int .i64 v.c]) rfl (fun W hW=>D9) ?_;try simp only[zn]
  refine zr 3 rfl (fun K hK=>?_);try simp only[z1,z2,z3]
  go_simp;have iM:=(aL c4);refine(pW.out _ (aA jF.out iM)).mono ?_;rintro e c1 ⟨rfl,jT⟩;have jH:=aA iM jT;clear iM jT;refine hK.out _ _ jH (fun hS=>?_);clear hK K;try simp only[zn]
  refine zr 6 rfl (fun K hK=>?_);try simp only[z1,z2,z3]
  go_simp;have iM:=jH;refine(HV.out _ (aA jF.out iM)).mono ?_;rintro e c2 ⟨rfl,jT⟩;have mG:=aA iM jT;clear iM jT;refine hK.out _ _ mG (fun hS=>?_);clear hK K;refine zt 7 (.string (s3++s4)) rfl (fun W hW=>C1) ?_;refine zt 8 (.string (((tk++s1)++s2)++(s3++s4))) rfl (fun W hW=>C1) ?_;refine zq 9 (.string (((tk++s1)++s2)++(s3++s4))) rfl ?_;try simp only[zn]
  refine wpAnyH_done CQ ?_ _;have kH:=zh (aA jF.out mG);have mO:=congrArg ByteArray.size HE.out;have kS:¬20000<full.size:=CR;have HP2:Hid (res=(full,0)):=zh (by rw[HP.out,if_neg kS]);have hbi:¬(20000:Int)<((((tk++s1)++s2)++(s3++s4)).size:Int):=CR;clear mO;go_wp2_with fail;go_ret2;exact⟨by rw[HP2.out,<-HE.out];rfl,kH.out⟩
theorem print_of{f:Fc}(h:aJ f=true)(hk:f.kind=7):aO f.print:=by
 have hb:=(bD h).2.2.1;unfold cX at hb;rw[if_neg CR,if_neg CR,if_neg CR,if_neg CR,if_pos hk] at hb;simp only[Bool.and_eq_true,decide_eq_true_eq] at hb;unfold aO;omega
theorem keyFrom_int:∀(l:List Int)(b:Option Int),bK b l=true->∀x∈l,aO x
 |[],_,_=>fun x hx=>by cases hx
 |y::r,b,h=>fun x hx=>by
  unfold bK at h;simp only[Bool.and_eq_true,decide_eq_true_eq] at h;rcases List.mem_cons.1 hx with rfl|hx
  ·unfold aO;omega
  exact keyFrom_int r _ h.2 x hx
theorem keys_of{f:Fc}(h:aJ f=true)(hk:f.kind=4\/f.kind=5\/f.kind=6):f.keys.length<=12/\(∀x∈f.keys,aO x)/\aO f.need/\aO f.til:=by
 have hb:=(bD h).2.2.1;unfold cX at hb;rw[if_neg CR,if_neg CR,if_neg CR,if_pos hk] at hb;simp only[Bool.and_eq_true] at hb;have sQ:=hb.1.2;have hu:=hb.2;unfold bL at sQ;simp only[Bool.and_eq_true,Bool.or_eq_true,decide_eq_true_eq] at sQ hu;refine⟨sQ.1.1.2,keyFrom_int _ _ sQ.1.1.1,?_,?_⟩
 ·unfold aO;omega
 unfold aO;omega
theorem numsW_size{l:List Int}(h:∀x∈l,aO x)(h2:l.length<=12):(bs (numsW l)).size<=400:=by
 have h1:=intsW_len l h;have h3:=Lib.itoa_length_le (l.length:Int) CR CR;rw[bs_size];unfold numsW;simp only[List.length_append,List.length_cons,List.length_nil];omega
theorem text_7(f:Fc){N:Nat->Prop}{p:FcP}(w:World)(hG:bC w)(h:FcV N w f p)(hf:f.rel.feats.length<=1000000)(kO:aJ f=true)(ho:f.kind=7):
  Calls Tryz.prog 14 #[.agg (fcC f p).toArray] w fun e w'=>e=.returned (.tuple #[.string (bO f).1,.int .i64 (bO f).2])/\Below w.heap.size w w':=by
 obtain⟨A,HA⟩:∃c:Array Value,Hid (c=(fcC f p).toArray):=⟨_,zh rfl⟩;have kA:Hid (A.size=29):=zh CW;have nK:Hid (A[0]? =some (.int .i64 f.kind)):=zh CW;have pP:Hid (A[1]? =some (.string f.name)):=zh CW;have qB:Hid (A[2]? =some (.int .i64 f.ver.a)):=zh CW;have tS:Hid (A[3]? =some (.int .i64 f.ver.b)):=zh CW;have uT:Hid (A[4]? =some (.int .i64 f.ver.c)):=zh CW;have pX:Hid (A[24]? =some (p.vk)):=zh CW;have qN:Hid (A[25]? =some (.int .i64 f.need)):=zh CW;have tI:Hid (A[26]? =some (.int .i64 f.til)):=zh CW;have tH:Hid (A[27]? =some (.int .i64 f.print)):=zh CW;have uU:Hid (A[28]? =some (.int .i64 f.time)):=zh CW;have HR:Hid (∀W,Below w.heap.size w W->Calls Tryz.prog 9 #[.agg A] W fun e w'=>e=.returned (.bool true)/\Below W.heap.size W w'):=zh (fun W hb=>DE);have HK:Hid (∀W,Below w.heap.size w W->Calls Tryz.prog 13 #[.agg A] W fun e w'=>e=.returned (.string (bM f))/\Below W.heap.size W w'):=zh (fun W hb=>DZ);have hkz:=keyF_size kO;have hpt:=bD kO;have nB:=name_of kO CR CR;have zB:=fZ nB.1;have sW:Hid (∀W,Below w.heap.size w W->Calls Tryz.prog 39 #[.string (bM f)] W fun e w'=>e=.returned (.string (bs (bW (bM f))))/\Below W.heap.size W w'):=zh (fun W hb=>gF _ W (hG.later hb) CR);have uY:Hid (∀W,Below w.heap.size w W->Calls Tryz.prog 40 #[.int .i64 f.kind] W fun e w'=>e=.returned (.string (bs (bS f.kind)))/\Below W.heap.size W w'):=zh (fun W hb=>dS _ W (hG.later hb) (by rcases ho with h9<;>(unfold aO;omega)));have nX:Hid (∀W,Below w.heap.size w W->Calls Tryz.prog 40 #[.int .i64 f.time] W fun e w'=>e=.returned (.string (bs (bS f.time)))/\Below W.heap.size W w'):=zh (fun W hb=>dS _ W (hG.later hb) C2);have pW:Hid (∀W,Below w.heap.size w W->Calls Tryz.prog 39 #[.string f.name] W fun e w'=>e=.returned (.string (bs (bW f.name)))/\Below W.heap.size W w'):=zh (fun W hb=>gF _ W (hG.later hb) h.name);have zk:=fG (show(bM f).size<=140737488355328 by omega);have z1:=bV (n:=f.kind) (by rcases ho with h9<;>(unfold aO;omega));have z2:=bV (n:=f.time) C2;have z3:=fG h.name;have yT:=verOk_int nB.2;have HV:Hid (∀W,Below w.heap.size w W->Calls Tryz.prog 42 #[.agg #[.int .i64 f.ver.a,.int .i64 f.ver.b,.int .i64 f.ver.c]] W fun e w'=>e=.returned (.string (bs (verW f.ver)))/\Below W.heap.size W w'):=zh (fun W hb=>fnumber_any _ W (hG.later hb) yT);have z4:=verW_size yT;clear yT;have HN3:Hid (∀W,Below w.heap.size w W->Calls Tryz.prog 40 #[.int .i64 f.print] W fun e w'=>e=.returned (.string (bs (bS f.print)))/\Below W.heap.size W w'):=zh (fun W hb=>dS _ W (hG.later hb) (print_of kO ho));have z5:=bV (print_of kO ho);have HE:Hid (((bs (bW (bM f))++bs (bS f.kind))++bs (bS f.time))++((bs (bW f.name)++bs (verW f.ver))++bs (bS f.print))=bs (dT f)):=zh (by unfold dT bodyW verW;simp[sums_bs,ho,List.append_assoc]);have kU:(bs (dT f)).size=(dT f).length:=rfl;have HP:Hid (bO f=if 20000<(bs (dT f)).size then(noB,6) else(bs (dT f),0)):=zh (by unfold bO;rw[if_pos kO];rfl);rw[<-HA.out];clear hpt nB kU h hG hf HA;have vN:Hid (f.kind=7):=zh ho;clear ho kO;generalize bO f=res at *;generalize bs (dT f)=full at *;generalize bs (verW f.ver)=s4 at *;generalize bs (bS f.print)=s5 at *;generalize tQ:bM f=kk at *;generalize bs (bW kk)=tk at *;generalize bs (bS f.kind)=s1 at *;generalize bs (bS f.time)=s2 at *;generalize bs (bW f.name)=s3 at *;clear tQ;generalize f.kind=k at *;generalize f.name=nm at *;generalize f.ver=v at *;generalize f.need=nd at *;generalize f.til=ut at *;generalize f.print=pr at *;generalize f.time=tm at *;generalize p.vk=vk at *;go_enter Tryz.func14,Tryz.ntmps14
 go_upto_region 1 with(fail)
 have iN:=zh (bY w (.cells A 37));have qG:=zh (aB w (.cells A 37));generalize w.alloc (.cells A 37)=Wa at *;go_wp2_with(refine aN (x:=.tmp 1) rfl CQ w.heap.size rfl A iN.out kA.out ?_);go_at_call 9;refine(HR.out _ qG.out).mono ?_;rintro e w1 ⟨rfl,kK⟩;have jL:=zh (aA qG.out kK);have jI:=zh (aC kK iN.out);clear kK;go_wp2_with fail;have qR:(tk++s1).size<=145:=CY;have qQ:((tk++s1)++s2).size<=167:=CY;refine wp_region_held_drew (S:=fun W=>Below w1.heap.size w1 W) CQ (aL w1) fun hS=>?_;refine wpAnyH_take (i:=0) (v:=.agg A) rfl CQ CQ CQ (fun _ _ _ h=>h) (yF CQ (x:=.tmp 1) rfl rfl kA.out (fun W hW=>aC hW jI.out)) hS ?_;refine zq 3 (.pointer (some ⟨w.heap.size,0,none⟩)) rfl ?_;refine zt 4 (.int .i64 k) rfl (fun W hW=>EU) ?_;refine zq 7 (.pointer (some ⟨w.heap.size,28,none⟩)) rfl ?_;refine zt 8 (.int .i64 tm) rfl (fun W hW=>ET) ?_;try simp only[zn]
 refine zr 1 rfl (fun K hK=>?_);try simp only[z1,z2,z3]
 go_simp;have iM:=(aL w1);refine(HK.out _ (aA jL.out iM)).mono ?_;rintro e c1 ⟨rfl,jT⟩;have jH:=aA iM jT;clear iM jT;refine hK.out _ _ jH (fun hS=>?_);clear hK K;try simp only[zn]
 refine zr 2 rfl (fun K hK=>?_);try simp only[z1,z2,z3]
 go_simp;have iM:=jH;refine(sW.out _ (aA jL.out iM)).mono ?_;rintro e c2 ⟨rfl,jT⟩;have mG:=aA iM jT;clear iM jT;refine hK.out _ _ mG (fun hS=>?_);clear hK K;try simp only[zn]
 refine zr 5 rfl (fun K hK=>?_);try simp only[z1,z2,z3]
 go_simp;have iM:=mG;refine(uY.out _ (aA jL.out iM)).mono ?_;rintro e c3 ⟨rfl,jT⟩;have nV:=aA iM jT;clear iM jT;refine hK.out _ _ nV (fun hS=>?_);clear hK K;refine zt 6 (.string (tk++s1)) rfl (fun W hW=>C1) ?_;try simp only[zn]
 refine zr 9 rfl (fun K hK=>?_);try simp only[z1,z2,z3]
 go_simp;have iM:=nV;refine(nX.out _ (aA jL.out iM)).mono ?_;rintro e c4 ⟨rfl,jT⟩;have oJ:=aA iM jT;clear iM jT;refine hK.out _ _ oJ (fun hS=>?_);clear hK K;refine zt 10 (.string ((tk++s1)++s2)) rfl (fun W hW=>C1) ?_;refine zq 11 (.string ((tk++s1)++s2)) rfl ?_;try simp only[zn]
 refine wpAnyH_done CQ ?_ _;have jF:=zh (aA jL.out oJ);have nP:=zh (aC oJ jI.out);clear jH mG nV oJ jI jL iN qG;skip;have nE:=vN.out;clear vN;subst nE;have c0:=cfA nP.out nK.out;go_wp2_with fail;clear c0;have qR:(s3++s4).size<=109:=CY;have qQ:((s3++s4)++s5).size<=131:=CY;have hs902:(((tk++s1)++s2)++((s3++s4)++s5)).size<=298:=CY;refine wp_region_held_drew (S:=fun W=>Below c4.heap.size c4 W) CQ (aL c4) fun hS=>?_;refine zq 0 (.string ((tk++s1)++s2)) rfl ?_;refine zq 1 (.pointer (some ⟨w.heap.size,1,none⟩)) rfl ?_;refine zt 2 (.string nm) rfl (fun W hW=>EV) ?_;refine zq 4 (.pointer (some ⟨w.heap.size,2,none⟩)) rfl ?_;refine zt 5 (.agg #[.int .i64 v.a,.int .i64 v.b,.int .i64 v.c]) rfl (fun W hW=>D9) ?_;refine zq 8 (.pointer (some ⟨w.heap.size,27,none⟩)) rfl ?_;refine zt 9 (.int .i64 pr) rfl (fun W hW=>by have c27:=cfA (aC hW nP.out) tH.out;go_simp) ?_;try simp only[zn]
 refine zr 3 rfl (fun K hK=>?_);try simp only[z1,z2,z3]
 go_simp;have iM:=(aL c4);refine(pW.out _ (aA jF.out iM)).mono ?_;rintro e c1 ⟨rfl,jT⟩;have jH:=aA iM jT;clear iM jT;refine hK.out _ _ jH (fun hS=>?_);clear hK K;try simp only[zn]
 refine zr 6 rfl (fun K hK=>?_);try simp only[z1,z2,z3]
 go_simp;have iM:=jH;refine(HV.out _ (aA jF.out iM)).mono ?_;rintro e c2 ⟨rfl,jT⟩;have mG:=aA iM jT;clear iM jT;refine hK.out _ _ mG (fun hS=>?_);clear hK K;refine zt 7 (.string (s3++s4)) rfl (fun W hW=>C1) ?_;try simp only[zn]
 refine zr 10 rfl (fun K hK=>?_);try simp only[z1,z2,z3]
 go_simp;have iM:=mG;refine(HN3.out _ (aA jF.out iM)).mono ?_;rintro e c3 ⟨rfl,jT⟩;have nV:=aA iM jT;clear iM jT;refine hK.out _ _ nV (fun hS=>?_);clear hK K;refine zt 11 (.string ((s3++s4)++s5)) rfl (fun W hW=>C1) ?_;refine zt 12 (.string (((tk++s1)++s2)++((s3++s4)++s5))) rfl (fun W hW=>C1) ?_;refine zq 13 (.string (((tk++s1)++s2)++((s3++s4)++s5))) rfl ?_;try simp only[zn]
 refine wpAnyH_done CQ ?_ _;have kH:=zh (aA jF.out nV);have mO:=congrArg ByteArray.size HE.out;have kS:¬20000<full.size:=CR;have HP2:Hid (res=(full,0)):=zh (by rw[HP.out,if_neg kS]);have hbi:¬(20000:Int)<((((tk++s1)++s2)++((s3++s4)++s5)).size:Int):=CR;clear mO;go_wp2_with fail;go_ret2;exact⟨by rw[HP2.out,<-HE.out];rfl,kH.out⟩
theorem text_4(f:Fc){N:Nat->Prop}{p:FcP}(w:World)(hG:bC w)(h:FcV N w f p)(hf:f.rel.feats.length<=1000000)(kO:aJ f=true)(ho:f.kind=4\/f.kind=5\/f.kind=6):
  Calls Tryz.prog 14 #[.agg (fcC f p).toArray] w fun e w'=>e=.returned (.tuple #[.string (bO f).1,.int .i64 (bO f).2])/\Below w.heap.size w w':=by
 obtain⟨A,HA⟩:∃c:Array Value,Hid (c=(fcC f p).toArray):=⟨_,zh rfl⟩;have kA:Hid (A.size=29):=zh CW;have nK:Hid (A[0]? =some (.int .i64 f.kind)):=zh CW;have pP:Hid (A[1]? =some (.string f.name)):=zh CW;have qB:Hid (A[2]? =some (.int .i64 f.ver.a)):=zh CW;have tS:Hid (A[3]? =some (.int .i64 f.ver.b)):=zh CW;have uT:Hid (A[4]? =some (.int .i64 f.ver.c)):=zh CW;have pX:Hid (A[24]? =some (p.vk)):=zh CW;have qN:Hid (A[25]? =some (.int .i64 f.need)):=zh CW;have tI:Hid (A[26]? =some (.int .i64 f.til)):=zh CW;have tH:Hid (A[27]? =some (.int .i64 f.print)):=zh CW;have uU:Hid (A[28]? =some (.int .i64 f.time)):=zh CW;have HR:Hid (∀W,Below w.heap.size w W->Calls Tryz.prog 9 #[.agg A] W fun e w'=>e=.returned (.bool true)/\Below W.heap.size W w'):=zh (fun W hb=>DE);have HK:Hid (∀W,Below w.heap.size w W->Calls Tryz.prog 13 #[.agg A] W fun e w'=>e=.returned (.string (bM f))/\Below W.heap.size W w'):=zh (fun W hb=>DZ);have hkz:=keyF_size kO;have hpt:=bD kO;have nB:=name_of kO CR CR;have zB:=fZ nB.1;have sW:Hid (∀W,Below w.heap.size w W->Calls Tryz.prog 39 #[.string (bM f)] W fun e w'=>e=.returned (.string (bs (bW (bM f))))/\Below W.heap.size W w'):=zh (fun W hb=>gF _ W (hG.later hb) CR);have uY:Hid (∀W,Below w.heap.size w W->Calls Tryz.prog 40 #[.int .i64 f.kind] W fun e w'=>e=.returned (.string (bs (bS f.kind)))/\Below W.heap.size W w'):=zh (fun W hb=>dS _ W (hG.later hb) (by rcases ho with h9|h9|h9<;>(unfold aO;omega)));have nX:Hid (∀W,Below w.heap.size w W->Calls Tryz.prog 40 #[.int .i64 f.time] W fun e w'=>e=.returned (.string (bs (bS f.time)))/\Below W.heap.size W w'):=zh (fun W hb=>dS _ W (hG.later hb) C2);have pW:Hid (∀W,Below w.heap.size w W->Calls Tryz.prog 39 #[.string f.name] W fun e w'=>e=.returned (.string (bs (bW f.name)))/\Below W.heap.size W w'):=zh (fun W hb=>gF _ W (hG.later hb) h.name);have zk:=fG (show(bM f).size<=140737488355328 by omega);have z1:=bV (n:=f.kind) (by rcases ho with h9|h9|h9<;>(unfold aO;omega));have z2:=bV (n:=f.time) C2;have z3:=fG h.name;have vP:=keys_of kO ho;have HV:Hid (∀W,Below w.heap.size w W->Calls Tryz.prog 45 #[p.vk] W fun e w'=>e=.returned (.string (bs (numsW f.keys)))/\Below W.heap.size W w'):=zh (fun W hb=>wnums_any _ _ W (hG.later hb) (aK.ints (h.keys.moves bH (aM.later hb) CX)) CR vP.2.1);have HN3:Hid (∀W,Below w.heap.size w W->Calls Tryz.prog 40 #[.int .i64 f.need] W fun e w'=>e=.returned (.string (bs (bS f.need)))/\Below W.heap.size W w'):=zh (fun W hb=>dS _ W (hG.later hb) vP.2.2.1);have HN4:Hid (∀W,Below w.heap.size w W->Calls Tryz.prog 40 #[.int .i64 f.til] W fun e w'=>e=.returned (.string (bs (bS f.til)))/\Below W.heap.size W w'):=zh (fun W hb=>dS _ W (hG.later hb) vP.2.2.2);have z4:=numsW_size vP.2.1 vP.1;have z5:=bV vP.2.2.1;have z6:=bV vP.2.2.2;clear vP;have HE:Hid (((bs (bW (bM f))++bs (bS f.kind))++bs (bS f.time))++(((bs (bW f.name)++bs (numsW f.keys))++bs (bS f.need))++bs (bS f.til))=bs (dT f)):=zh (by rcases ho with h9|h9|h9<;>(unfold dT bodyW verW;simp[sums_bs,h9,List.append_assoc]));have kU:(bs (dT f)).size=(dT f).length:=rfl;have HP:Hid (bO f=if 20000<(bs (dT f)).size then(noB,6) else(bs (dT f),0)):=zh (by unfold bO;rw[if_pos kO];rfl);rw[<-HA.out];clear hpt nB kU h hG hf HA;have vN:Hid (f.kind=4\/f.kind=5\/f.kind=6):=zh ho;clear ho kO;generalize bO f=res at *;generalize bs (dT f)=full at *;generalize bs (numsW f.keys)=s4 at *;generalize bs (bS f.need)=s5 at *;generalize bs (bS f.til)=s6 at *;generalize tQ:bM f=kk at *;generalize bs (bW kk)=tk at *;generalize bs (bS f.kind)=s1 at *;generalize bs (bS f.time)=s2 at *;generalize bs (bW f.name)=s3 at *;clear tQ;generalize f.kind=k at *;generalize f.name=nm at *;generalize f.ver=v at *;generalize f.need=nd at *;generalize f.til=ut at *;generalize f.print=pr at *;generalize f.time=tm at *;generalize p.vk=vk at *;go_enter Tryz.func14,Tryz.ntmps14
 go_upto_region 1 with(fail)
 have iN:=zh (bY w (.cells A 37));have qG:=zh (aB w (.cells A 37));generalize w.alloc (.cells A 37)=Wa at *;go_wp2_with(refine aN (x:=.tmp 1) rfl CQ w.heap.size rfl A iN.out kA.out ?_);go_at_call 9;refine(HR.out _ qG.out).mono ?_;rintro e w1 ⟨rfl,kK⟩;have jL:=zh (aA qG.out kK);have jI:=zh (aC kK iN.out);clear kK;go_wp2_with fail;have qR:(tk++s1).size<=145:=CY;have qQ:((tk++s1)++s2).size<=167:=CY;refine wp_region_held_drew (S:=fun W=>Below w1.heap.size w1 W) CQ (aL w1) fun hS=>?_;refine wpAnyH_take (i:=0) (v:=.agg A) rfl CQ CQ CQ (fun _ _ _ h=>h) (yF CQ (x:=.tmp 1) rfl rfl kA.out (fun W hW=>aC hW jI.out)) hS ?_;refine zq 3 (.pointer (some ⟨w.heap.size,0,none⟩)) rfl ?_;refine zt 4 (.int .i64 k) rfl (fun W hW=>EU) ?_;refine zq 7 (.pointer (some ⟨w.heap.size,28,none⟩)) rfl ?_;refine zt 8 (.int .i64 tm) rfl (fun W hW=>ET) ?_;try simp only[zn]
 refine zr 1 rfl (fun K hK=>?_);try simp only[z1,z2,z3]
 go_simp;have iM:=(aL w1);refine(HK.out _ (aA jL.out iM)).mono ?_;rintro e c1 ⟨rfl,jT⟩;have jH:=aA iM jT;clear iM jT;refine hK.out _ _ jH (fun hS=>?_);clear hK K;try simp only[zn]
 refine zr 2 rfl (fun K hK=>?_);try simp only[z1,z2,z3]
 go_simp;have iM:=jH;refine(sW.out _ (aA jL.out iM)).mono ?_;rintro e c2 ⟨rfl,jT⟩;have mG:=aA iM jT;clear iM jT;refine hK.out _ _ mG (fun hS=>?_);clear hK K;try simp only[zn]
 refine zr 5 rfl (fun K hK=>?_);try simp only[z1,z2,z3]
 go_simp;have iM:=mG;refine(uY.out _ (aA jL.out iM)).mono ?_;rintro e c3 ⟨rfl,jT⟩;have nV:=aA iM jT;clear iM jT;refine hK.out _ _ nV (fun hS=>?_);clear hK K;refine zt 6 (.string (tk++s1)) rfl (fun W hW=>C1) ?_;try simp only[zn]
 refine zr 9 rfl (fun K hK=>?_);try simp only[z1,z2,z3]
 go_simp;have iM:=nV;refine(nX.out _ (aA jL.out iM)).mono ?_;rintro e c4 ⟨rfl,jT⟩;have oJ:=aA iM jT;clear iM jT;refine hK.out _ _ oJ (fun hS=>?_);clear hK K;refine zt 10 (.string ((tk++s1)++s2)) rfl (fun W hW=>C1) ?_;refine zq 11 (.string ((tk++s1)++s2)) rfl ?_;try simp only[zn]
 refine wpAnyH_done CQ ?_ _;have jF:=zh (aA jL.out oJ);have nP:=zh (aC oJ jI.out);clear jH mG nV oJ jI jL iN qG;skip;have nE:=vN.out;clear vN;rcases nE with rfl|rfl|rfl
 all_goals
  have c0:=cfA nP.out nK.out;go_wp2_with fail;clear c0;have qR:(s3++s4).size<=443:=CY;have qQ:((s3++s4)++s5).size<=465:=CY;have hs902:(((s3++s4)++s5)++s6).size<=487:=CY;have hs903:(((tk++s1)++s2)++(((s3++s4)++s5)++s6)).size<=654:=CY;refine wp_region_held_drew (S:=fun W=>Below c4.heap.size c4 W) CQ (aL c4) fun hS=>?_;refine zq 0 (.string ((tk++s1)++s2)) rfl ?_;refine zq 1 (.pointer (some ⟨w.heap.size,1,none⟩)) rfl ?_;refine zt 2 (.string nm) rfl (fun W hW=>EV) ?_;refine zq 4 (.pointer (some ⟨w.heap.size,24,none⟩)) rfl ?_;refine zt 5 (vk) rfl (fun W hW=>by have c24:=cfA (aC hW nP.out) pX.out;go_simp) ?_;refine zq 8 (.pointer (some ⟨w.heap.size,25,none⟩)) rfl ?_;refine zt 9 (.int .i64 nd) rfl (fun W hW=>by have c25:=cfA (aC hW nP.out) qN.out;go_simp) ?_;refine zq 12 (.pointer (some ⟨w.heap.size,26,none⟩)) rfl ?_;refine zt 13 (.int .i64 ut) rfl (fun W hW=>by have c26:=cfA (aC hW nP.out) tI.out;go_simp) ?_;try simp only[zn]
  refine zr 3 rfl (fun K hK=>?_);try simp only[z1,z2,z3]
  go_simp;have iM:=(aL c4);refine(pW.out _ (aA jF.out iM)).mono ?_;rintro e c1 ⟨rfl,jT⟩;have jH:=aA iM jT;clear iM jT;refine hK.out _ _ jH (fun hS=>?_);clear hK K;try simp only[zn]
  refine zr 6 rfl (fun K hK=>?_);try simp only[z1,z2,z3]
  go_simp;have iM:=jH;refine(HV.out _ (aA jF.out iM)).mono ?_;rintro e c2 ⟨rfl,jT⟩;have mG:=aA iM jT;clear iM jT;refine hK.out _ _ mG (fun hS=>?_);clear hK K;refine zt 7 (.string (s3++s4)) rfl (fun W hW=>C1) ?_;try simp only[zn]
  refine zr 10 rfl (fun K hK=>?_);try simp only[z1,z2,z3]
  go_simp;have iM:=mG;refine(HN3.out _ (aA jF.out iM)).mono ?_;rintro e c3 ⟨rfl,jT⟩;have nV:=aA iM jT;clear iM jT;refine hK.out _ _ nV (fun hS=>?_);clear hK K;refine zt 11 (.string ((s3++s4)++s5)) rfl (fun W hW=>C1) ?_;try simp only[zn]
  refine zr 14 rfl (fun K hK=>?_);try simp only[z1,z2,z3]
  go_simp;have iM:=nV;refine(HN4.out _ (aA jF.out iM)).mono ?_;rintro e c4 ⟨rfl,jT⟩;have oJ:=aA iM jT;clear iM jT;refine hK.out _ _ oJ (fun hS=>?_);clear hK K;refine zt 15 (.string (((s3++s4)++s5)++s6)) rfl (fun W hW=>C1) ?_;refine zt 16 (.string (((tk++s1)++s2)++(((s3++s4)++s5)++s6))) rfl (fun W hW=>C1) ?_;refine zq 17 (.string (((tk++s1)++s2)++(((s3++s4)++s5)++s6))) rfl ?_;try simp only[zn]
  refine wpAnyH_done CQ ?_ _;have kH:=zh (aA jF.out oJ);have mO:=congrArg ByteArray.size HE.out;have kS:¬20000<full.size:=CR;have HP2:Hid (res=(full,0)):=zh (by rw[HP.out,if_neg kS]);have hbi:¬(20000:Int)<((((tk++s1)++s2)++(((s3++s4)++s5)++s6)).size:Int):=CR;clear mO;go_wp2_with fail;go_ret2;exact⟨by rw[HP2.out,<-HE.out];rfl,kH.out⟩
theorem text_not(f:Fc){N:Nat->Prop}{p:FcP}(w:World)(hG:bC w)(h:FcV N w f p)(hf:f.rel.feats.length<=1000000)(kO:aJ f=false):
  Calls Tryz.prog 14 #[.agg (fcC f p).toArray] w fun e w'=>e=.returned (.tuple #[.string (bO f).1,.int .i64 (bO f).2])/\Below w.heap.size w w':=by
 obtain⟨A,HA⟩:∃c:Array Value,Hid (c=(fcC f p).toArray):=⟨_,zh rfl⟩;have kA:Hid (A.size=29):=zh CW;have HR:Hid (∀W,Below w.heap.size w W->Calls Tryz.prog 9 #[.agg A] W fun e w'=>e=.returned (.bool false)/\Below W.heap.size W w'):=zh (fun W hb=>DE);have HP:Hid (bO f=(noB,1)):=zh (by unfold bO;rw[if_neg (by rw[kO];decide)]);rw[<-HA.out];clear h hG hf HA kO;generalize bO f=res at *;go_enter Tryz.func14,Tryz.ntmps14
 go_upto_region 1 with(fail)
 have iN:=zh (bY w (.cells A 37));have qG:=zh (aB w (.cells A 37));generalize w.alloc (.cells A 37)=Wa at *;go_wp2_with(refine aN (x:=.tmp 1) rfl CQ w.heap.size rfl A iN.out kA.out ?_);go_at_call 9;refine(HR.out _ qG.out).mono ?_;rintro e w1 ⟨rfl,kK⟩;have jL:=zh (aA qG.out kK);clear kK;go_wp2_with fail;go_ret2;exact⟨by rw[HP.out];rfl,jL.out⟩
theorem text_any(f:Fc){N:Nat->Prop}{p:FcP}(w:World)(hG:bC w)(h:FcV N w f p)(hf:f.rel.feats.length<=1000000)(hk:aJ f=true->f.kind≠0/\f.kind≠3):
  Calls Tryz.prog 14 #[.agg (fcC f p).toArray] w fun e w'=>e=.returned (.tuple #[.string (bO f).1,.int .i64 (bO f).2])/\Below w.heap.size w w':=by
 cases kO:aJ f with
 |false=>exact text_not f w hG h hf kO
 |true=>
  obtain⟨k0,k7⟩:=kind_of (bD kO).2.2.1;have hk':=hk kO;by_cases h1:f.kind=1\/f.kind=2
  ·exact text_1 f w hG h hf kO h1
  by_cases h4:f.kind=4\/f.kind=5\/f.kind=6
  ·exact text_4 f w hG h hf kO h4
  exact text_7 f w hG h hf kO CR
end Go.Proofs.YtmpopphjaggeoaaGreatDoor
