/- Texts of this seat, joined. -/
import Derived.Test.YtacgopankhpnbaaGreatDoorKAH
set_option linter.unusedVariables false
set_option linter.unusedSimpArgs false
namespace Go.Proofs.YtacgopankhpnbaaGreatDoor
set_option maxHeartbeats 2000000
set_option maxRecDepth 100000
open Go.RowKit
theorem uD{p:Prop}(h:p:=by
 go_wp2_with fail;go_ret
 exact⟨aE (by rw[HT.out,<-HD.out]),HB.out⟩):p:=h
theorem vH{p:Prop}(h:p:=by
 go_roundw;case rel=>exact⟨q+1,vT,wH,zh (aB HB.out (aB (aA _ _) hb1)),HS2⟩
 case measure=>simp[intOf];omega):p:=h
def RightTyAll:Prop:=∀(d:Nat)(t:Ty)(N:Nat->Prop)(k:Int)(vf:Value)(w:World),d<=100->bV w->jG N w t [.int .i64 k,vf]->
  Calls Tryz.prog 197 #[.agg #[.int .i64 k,vf],.int .i64 (d:Int)] w fun e w'=>e=.returned (.bool (cI d t))/\Below w.heap.size w w'
def RightXpAll:Prop:=∀(d:Nat)(x:Xp)(N:Nat->Prop)(op n:Int)(s m:ByteArray)(vn va:Value)(w:World),d<=100->bV w->cE N w x [.int .i64 op,.int .i64 n,.string s,.string m,vn,va]->
  Calls Tryz.prog 198 #[.agg #[.int .i64 op,.int .i64 n,.string s,.string m,vn,va],.int .i64 (d:Int)] w fun e w'=>e=.returned (.bool (aZ d x))/\Below w.heap.size w w'
theorem RightType_any(hT:RightTyAll)(t:Ty)(N:Nat->Prop)(k:Int)(vf:Value)(w:World)(hg:bV w)(he:jG N w t [.int .i64 k,vf]):
  Calls Tryz.prog 149 #[.agg #[.int .i64 k,vf]] w fun e w'=>e=.returned (.bool (cI 4 t))/\Below w.heap.size w w':=by
 have hb:=aA w (.cells #[.int .i64 k,vf] 175);have HT:=zh (hT 4 t N k vf _ vV (hg.later hb) (fL _ _ _ _ _ _ (bX.later hb) he));obtain⟨a,n,c,rfl⟩:=encT_slice he;generalize cI 4 t=r at *;clear hT hg he;go_enter Tryz.func149,Tryz.ntmps149;go_wp2_with(go_at_call 197;refine HT.out.mono ?_;rintro e w2 ⟨rfl,hb2⟩);go_ret;exact⟨rfl,aB hb hb2⟩
theorem lQ{N:Nat->Prop}{w:World}{x:Xp}{op n:Int}{s m:ByteArray}{vn va:Value}(h:cE N w x [.int .i64 op,.int .i64 n,.string s,.string m,vn,va]):(∃a n c,vn=.slice a n c)/\∃a n c,va=.slice a n c:=by
 cases x with
 |mk op' n' s' m' names args=>
  rw[bF] at h;obtain⟨v1,v2,e,-,-,⟨a1,c1,h1,-⟩,⟨a2,c2,h2,-⟩⟩:=h;cases e;exact⟨⟨_,_,_,h1⟩,_,_,_,h2⟩
theorem RightExp_any(hX:RightXpAll)(x:Xp)(N:Nat->Prop)(op n:Int)(s m:ByteArray)(vn va:Value)(w:World)(hg:bV w)(he:cE N w x [.int .i64 op,.int .i64 n,.string s,.string m,vn,va]):
  Calls Tryz.prog 150 #[.agg #[.int .i64 op,.int .i64 n,.string s,.string m,vn,va]] w fun e w'=>e=.returned (.bool (aZ 12 x))/\Below w.heap.size w w':=by
 have hb:=aA w (.cells #[.int .i64 op,.int .i64 n,.string s,.string m,vn,va] 177);have HT:=zh (hX 12 x N op n s m vn va _ vV (hg.later hb) (aG _ _ _ _ _ _ (bX.later hb) he));obtain⟨⟨a1,n1,c1,rfl⟩,a2,n2,c2,rfl⟩:=lQ he;generalize aZ 12 x=r at *;clear hX hg he;go_enter Tryz.func150,Tryz.ntmps150;go_wp2_with(go_at_call 198;refine HT.out.mono ?_;rintro e w2 ⟨rfl,hb2⟩);go_ret;exact⟨rfl,aB hb hb2⟩
theorem all_at{α:Type}{p:α->Bool}{l:List α}{q:Nat}{x:α}(hx:l[q]? =some x):(l.drop q).all p=(p x&&(l.drop (q+1)).all p):=by
 obtain⟨hk,he⟩:=List.getElem?_eq_some_iff.1 hx;rw[List.drop_eq_getElem_cons hk,he,List.all_cons]
theorem pT(hX:RightXpAll)(l:List Xp)(n:Nat)(N:Nat->Prop)(v:Value)(w:World)(hn:n<=1000)(hg:bV w)(he:aK 6 cE N w v l):
  Calls Tryz.prog 151 #[v,.int .i64 (n:Int)] w fun e w'=>e=.returned (.bool (fX l n))/\Below w.heap.size w w':=by
 have HG:=zh (fun W(hb:Below w.heap.size w W)=>hg.later hb);have HX:=zh hX;have hlb:l.length<=9223372036854775807:=by obtain⟨_,_,_,h1,h2,-⟩:=he;omega
 have hn1:(n:Int)<=1000:=vT;have HR:Hid (fX l n=(l.all (aZ 12)&&decide (l.length=n))):=zh rfl;have HD:Hid (((l.length:Int)==(n:Int))=decide (l.length=n)):=zh xE;clear hg hX;rcases he.cases vV with⟨rfl,a,c,rfl⟩|⟨b,o,c,rfl,h0,h1,h2,hb,hN,hc⟩
 ·clear he;go_enter Tryz.func151,Tryz.ntmps151;go_wp2_with fail;go_loop [9] (fun i=>i=.int .i64 0) (fun _=>0)
  case atStart=>rfl
  case round=>
   subst hrel;go_wp2_with fail;go_ret;exact⟨aE (by rw[HR.out,<-HD.out];rfl),Below.refl _ _⟩
 ·have HC:=zh hc;clear hc he;go_enter Tryz.func151,Tryz.ntmps151;go_wp2_with fail;go_loopw [9] (fun iv wr=>∃q:Nat,q<=l.length/\iv=.int .i64 (q:Int)/\Hid (Below w.heap.size w wr)/\Hid (l.all (aZ 12)=(l.drop q).all (aZ 12))) (fun iv _=>l.length-(intOf iv).toNat)
  case atStart=>exact⟨0,Nat.zero_le _,rfl,zh (Below.refl _ _),zh rfl⟩
  case round=>
   obtain⟨q,hq,rfl,HB,HSp⟩:=hrel;(rename World=>wr);by_cases hlt:q<l.length
   ·obtain⟨x,hx,-⟩:=getElem?_of_lt hlt;obtain⟨cs,het,-,hj⟩:=HC.out q x hx;have HS1:=zh (HSp.out.trans (all_at hx))
    cases x with
    |mk op2 n2 s2 m2 names2 args2=>
     have het2:=het;rw[bF] at het2;obtain⟨vn2,va2,rfl,-,-,hr1,hr2⟩:=het2;obtain⟨a1,cc1,rfl,-⟩:=hr1;obtain⟨a2,cc2,rfl,-⟩:=hr2;have c0:wr.cell? ⟨b,o+q*6,none⟩=some (.int .i64 op2):=aC HB.out (hj 0 _ rfl);have c1:=aC HB.out (hj 1 _ rfl);have c2:=aC HB.out (hj 2 _ rfl);have c3:=aC HB.out (hj 3 _ rfl);have c4:=aC HB.out (hj 4 _ rfl);have c5:=aC HB.out (hj 5 _ rfl);have HL:=zh (fun W(h:Below w.heap.size w W)=>RightExp_any HX.out (.mk op2 n2 s2 m2 names2 args2) N op2 n2 s2 m2 _ _ W (HG.out W h) (aG _ _ _ _ _ _ (bX.later h) het));clear hj het hx;generalize aZ 12 (.mk op2 n2 s2 m2 names2 args2)=r0 at HL HS1;generalize names2.length=ln at *;generalize args2.length=la at *
     cases r0 with
     |false=>
      have HF:Hid (fX l n=false):=zh (by rw[HR.out,HS1.out];rfl);clear HS1 HSp;go_wp2_with(go_at_call 150;refine(HL.out _ (aB HB.out (aA _ _))).mono ?_;rintro e w1 ⟨rfl,hb1⟩);go_ret;exact⟨aE xI,aB HB.out (aB (aA _ _) hb1)⟩
     |true=>
      have HS2:Hid (l.all (aZ 12)=(l.drop (q+1)).all (aZ 12)):=zh (by rw[HS1.out];rfl);clear HS1 HSp;go_wp2_with(go_at_call 150;refine(HL.out _ (aB HB.out (aA _ _))).mono ?_;rintro e w1 ⟨rfl,hb1⟩);exact vH
   ·have hq':q=l.length:=vT;have HT:Hid (fX l n=decide (l.length=n)):=zh (by rw[HR.out,HSp.out,hq',List.drop_length];rfl);exact uD
theorem rY{p:Prop}(h:p:=by
 have HS:=zh (fP s _ vT (hg.later hb));generalize aT s=r at *;clear hg;go_enter Tryz.func225,Tryz.ntmps225;go_wp2_with(go_at_call 147;refine HS.out.mono ?_;rintro e w2 ⟨rfl,rfl⟩);go_ret
 exact⟨aE (by rw[HR.out]),hb⟩):p:=h
theorem sG{p:Prop}(h:p:=by
 clear hg;go_enter Tryz.func225,Tryz.ntmps225;go_wp2_with fail;go_ret
 exact⟨aE (by rw[HR.out]),hb⟩):p:=h
theorem sZ{p:Prop}(h:p:=by
 go_enter Tryz.func225,Tryz.ntmps225;go_wp2_with fail;go_ret
 exact⟨aE (by rw[HR.out];decide),hb⟩):p:=h
theorem tT{p:Prop}(h:p:=by
 go_wp2_with fail;go_ret
 exact⟨aE xO,hb⟩):p:=h
def bQ(x:Xp)(op n:Int)(s m:ByteArray)(vn va:Value)(w:World):Prop:=Calls Tryz.prog 225 #[.agg #[.int .i64 op,.int .i64 n,.string s,.string m,vn,va]] w fun e w'=>e=.returned (.bool (eW x))/\Below w.heap.size w w'
theorem leaf_0(n:Int)(s m:ByteArray)(names:List ByteArray)(args:List Xp)(a1:Option Addr)(n1 c1:Nat)(a2:Option Addr)(c2:Nat)(w:World)(hg:bV w)(hs:s.size<=8000)(hm:m.size<=8000):bQ (.mk 0 n s m names args) 0 n s m (.slice a1 n1 c1) (.slice a2 args.length c2) w:=by
 unfold bQ;have hb:=aA w (.cells #[.int .i64 0,.int .i64 n,.string s,.string m,.slice a1 n1 c1,.slice a2 args.length c2] 177);have HR:Hid (eW (.mk 0 n s m names args)=(decide (0<=n)&&decide (n<=1099511627776))):=zh rfl;clear hg;by_cases h1:0<=n
 ·by_cases h2:n<=1099511627776
  ·rw[decide_eq_true h1,decide_eq_true h2] at HR;go_enter Tryz.func225,Tryz.ntmps225;exact tT
  ·rw[decide_eq_true h1,decide_eq_false h2] at HR;go_enter Tryz.func225,Tryz.ntmps225;exact tT
 ·rw[decide_eq_false h1] at HR;go_enter Tryz.func225,Tryz.ntmps225;exact tT
theorem leaf_1(n:Int)(s m:ByteArray)(names:List ByteArray)(args:List Xp)(a1:Option Addr)(n1 c1:Nat)(a2:Option Addr)(c2:Nat)(w:World)(hg:bV w)(hs:s.size<=8000)(hm:m.size<=8000):bQ (.mk 1 n s m names args) 1 n s m (.slice a1 n1 c1) (.slice a2 args.length c2) w:=by
 unfold bQ;have hb:=aA w (.cells #[.int .i64 1,.int .i64 n,.string s,.string m,.slice a1 n1 c1,.slice a2 args.length c2] 177);have HR:Hid (eW (.mk 1 n s m names args)=(decide (n=0)||decide (n=1))):=zh rfl;clear hg;by_cases h0:n=0
 ·subst h0;exact sZ
 ·have g0:(n==0)=false:=by rw[beq_eq_false_iff_ne];exact h0
  by_cases h1:n=1
  ·subst h1;exact sZ
  ·have g1:(n==1)=false:=zG;go_enter Tryz.func225,Tryz.ntmps225;go_wp2_with fail;go_ret;exact⟨aE (by rw[HR.out];simp[h0,h1]),hb⟩
theorem leaf_16(n:Int)(s m:ByteArray)(names:List ByteArray)(args:List Xp)(a1:Option Addr)(n1 c1:Nat)(a2:Option Addr)(c2:Nat)(w:World)(hg:bV w)(hs:s.size<=8000)(hm:m.size<=8000):bQ (.mk 16 n s m names args) 16 n s m (.slice a1 n1 c1) (.slice a2 args.length c2) w:=by
 unfold bQ;have hb:=aA w (.cells #[.int .i64 16,.int .i64 n,.string s,.string m,.slice a1 n1 c1,.slice a2 args.length c2] 177);have HR:Hid (eW (.mk 16 n s m names args)=(decide (n=1)||decide (n=2)||decide (n=4)||decide (n=8))):=zh rfl;clear hg;by_cases h1:n=1
 ·subst h1;exact sZ
 ·have g1:(n==1)=false:=zG;by_cases h2:n=2
  ·subst h2;exact sZ
  ·(have g2:(n==2)=false:=by rw[beq_eq_false_iff_ne];exact h2);by_cases h4:n=4
   ·subst h4;exact sZ
   ·(have g4:(n==4)=false:=by rw[beq_eq_false_iff_ne];exact h4);by_cases h8:n=8
    ·subst h8;exact sZ
    ·(have g8:(n==8)=false:=by rw[beq_eq_false_iff_ne];exact h8);go_enter Tryz.func225,Tryz.ntmps225;go_wp2_with fail;go_ret;exact⟨aE (by rw[HR.out];simp[h1,h2,h4,h8]),hb⟩
theorem leaf_2(n:Int)(s m:ByteArray)(names:List ByteArray)(args:List Xp)(a1:Option Addr)(n1 c1:Nat)(a2:Option Addr)(c2:Nat)(w:World)(hg:bV w)(hs:s.size<=8000)(hm:m.size<=8000):bQ (.mk 2 n s m names args) 2 n s m (.slice a1 n1 c1) (.slice a2 args.length c2) w:=by
 unfold bQ;have hb:=aA w (.cells #[.int .i64 2,.int .i64 n,.string s,.string m,.slice a1 n1 c1,.slice a2 args.length c2] 177);have HR:Hid (eW (.mk 2 n s m names args)=aT s):=zh rfl;exact rY
theorem leaf_17(n:Int)(s m:ByteArray)(names:List ByteArray)(args:List Xp)(a1:Option Addr)(n1 c1:Nat)(a2:Option Addr)(c2:Nat)(w:World)(hg:bV w)(hs:s.size<=8000)(hm:m.size<=8000):bQ (.mk 17 n s m names args) 17 n s m (.slice a1 n1 c1) (.slice a2 args.length c2) w:=by
 unfold bQ;have hb:=aA w (.cells #[.int .i64 17,.int .i64 n,.string s,.string m,.slice a1 n1 c1,.slice a2 args.length c2] 177);have HR:Hid (eW (.mk 17 n s m names args)=aT s):=zh rfl;exact rY
theorem leaf_18(n:Int)(s m:ByteArray)(names:List ByteArray)(args:List Xp)(a1:Option Addr)(n1 c1:Nat)(a2:Option Addr)(c2:Nat)(w:World)(hg:bV w)(hs:s.size<=8000)(hm:m.size<=8000):bQ (.mk 18 n s m names args) 18 n s m (.slice a1 n1 c1) (.slice a2 args.length c2) w:=by
 unfold bQ;have hb:=aA w (.cells #[.int .i64 18,.int .i64 n,.string s,.string m,.slice a1 n1 c1,.slice a2 args.length c2] 177);have HR:Hid (eW (.mk 18 n s m names args)=aT s):=zh rfl;exact rY
theorem leaf_14(n:Int)(s m:ByteArray)(names:List ByteArray)(args:List Xp)(a1:Option Addr)(n1 c1:Nat)(a2:Option Addr)(c2:Nat)(w:World)(hg:bV w)(hs:s.size<=8000)(hm:m.size<=8000):bQ (.mk 14 n s m names args) 14 n s m (.slice a1 n1 c1) (.slice a2 args.length c2) w:=by
 unfold bQ;have hb:=aA w (.cells #[.int .i64 14,.int .i64 n,.string s,.string m,.slice a1 n1 c1,.slice a2 args.length c2] 177);have HR:Hid (eW (.mk 14 n s m names args)=aT s):=zh rfl;exact rY
theorem leaf_12(n:Int)(s m:ByteArray)(names:List ByteArray)(args:List Xp)(a1:Option Addr)(n1 c1:Nat)(a2:Option Addr)(c2:Nat)(w:World)(hg:bV w)(hs:s.size<=8000)(hm:m.size<=8000):bQ (.mk 12 n s m names args) 12 n s m (.slice a1 n1 c1) (.slice a2 args.length c2) w:=by
 unfold bQ;have hb:=aA w (.cells #[.int .i64 12,.int .i64 n,.string s,.string m,.slice a1 n1 c1,.slice a2 args.length c2] 177);have HR:Hid (eW (.mk 12 n s m names args)=aT s):=zh rfl;exact rY
theorem leaf_15(n:Int)(s m:ByteArray)(names:List ByteArray)(args:List Xp)(a1:Option Addr)(n1 c1:Nat)(a2:Option Addr)(c2:Nat)(w:World)(hg:bV w)(hs:s.size<=8000)(hm:m.size<=8000):bQ (.mk 15 n s m names args) 15 n s m (.slice a1 n1 c1) (.slice a2 args.length c2) w:=by
 unfold bQ;have hb:=aA w (.cells #[.int .i64 15,.int .i64 n,.string s,.string m,.slice a1 n1 c1,.slice a2 args.length c2] 177);have HR:Hid (eW (.mk 15 n s m names args)=(aT s&&(decide (m=noB)||aT m)&&decide (args.length<=6))):=zh rfl;have HS:=zh (fP s _ vT (hg.later hb));have HM:=zh (fP m _ vT (hg.later hb));clear hg;have HL:Hid (decide ((args.length:Int)<=6)=decide (args.length<=6)):=zh xE
 cases hsn:aT s with
 |false=>
  rw[hsn] at HS HR;clear HM hsn;go_enter Tryz.func225,Tryz.ntmps225;go_wp2_with fail;go_at_call 147;refine HS.out.mono ?_;rintro e w2 ⟨rfl,rfl⟩;exact tT
 |true=>
  rw[hsn] at HS HR;clear hsn;by_cases hm0:m=noB
  ·subst hm0;clear HM;go_enter Tryz.func225,Tryz.ntmps225;go_wp2_with fail;go_at_call 147;refine HS.out.mono ?_;rintro e w2 ⟨rfl,rfl⟩;go_wp2_with fail;go_ret;exact⟨aE (by rw[HR.out];rw[<-HL.out];rfl),hb⟩
  ·have hm1:(m.toList==[])=false:=wA;rw[decide_eq_false hm0] at HR;clear hm0
   cases hmn:aT m with
   |false=>
    rw[hmn] at HM HR;clear hmn;go_enter Tryz.func225,Tryz.ntmps225;go_wp2_with fail;go_at_call 147;refine HS.out.mono ?_;rintro e w2 ⟨rfl,rfl⟩;go_wp2_with fail;go_at_call 147;refine HM.out.mono ?_;rintro e w3 ⟨rfl,rfl⟩;exact tT
   |true=>
    rw[hmn] at HM HR;clear hmn;go_enter Tryz.func225,Tryz.ntmps225;go_wp2_with fail;go_at_call 147;refine HS.out.mono ?_;rintro e w2 ⟨rfl,rfl⟩;go_wp2_with fail;go_at_call 147;refine HM.out.mono ?_;rintro e w3 ⟨rfl,rfl⟩;go_wp2_with fail;go_ret;exact⟨aE (by rw[HR.out];rw[<-HL.out];rfl),hb⟩
theorem leaf_3(n:Int)(s m:ByteArray)(names:List ByteArray)(args:List Xp)(a1:Option Addr)(n1 c1:Nat)(a2:Option Addr)(c2:Nat)(w:World)(hg:bV w)(hs:s.size<=8000)(hm:m.size<=8000):bQ (.mk 3 n s m names args) 3 n s m (.slice a1 n1 c1) (.slice a2 args.length c2) w:=by
 unfold bQ;have hb:=aA w (.cells #[.int .i64 3,.int .i64 n,.string s,.string m,.slice a1 n1 c1,.slice a2 args.length c2] 177);have HR:Hid (eW (.mk 3 n s m names args)=true):=zh rfl;exact sG
theorem leaf_4(n:Int)(s m:ByteArray)(names:List ByteArray)(args:List Xp)(a1:Option Addr)(n1 c1:Nat)(a2:Option Addr)(c2:Nat)(w:World)(hg:bV w)(hs:s.size<=8000)(hm:m.size<=8000):bQ (.mk 4 n s m names args) 4 n s m (.slice a1 n1 c1) (.slice a2 args.length c2) w:=by
 unfold bQ;have hb:=aA w (.cells #[.int .i64 4,.int .i64 n,.string s,.string m,.slice a1 n1 c1,.slice a2 args.length c2] 177);have HR:Hid (eW (.mk 4 n s m names args)=true):=zh rfl;exact sG
theorem leaf_5(n:Int)(s m:ByteArray)(names:List ByteArray)(args:List Xp)(a1:Option Addr)(n1 c1:Nat)(a2:Option Addr)(c2:Nat)(w:World)(hg:bV w)(hs:s.size<=8000)(hm:m.size<=8000):bQ (.mk 5 n s m names args) 5 n s m (.slice a1 n1 c1) (.slice a2 args.length c2) w:=by
 unfold bQ;have hb:=aA w (.cells #[.int .i64 5,.int .i64 n,.string s,.string m,.slice a1 n1 c1,.slice a2 args.length c2] 177);have HR:Hid (eW (.mk 5 n s m names args)=true):=zh rfl;exact sG
theorem leaf_6(n:Int)(s m:ByteArray)(names:List ByteArray)(args:List Xp)(a1:Option Addr)(n1 c1:Nat)(a2:Option Addr)(c2:Nat)(w:World)(hg:bV w)(hs:s.size<=8000)(hm:m.size<=8000):bQ (.mk 6 n s m names args) 6 n s m (.slice a1 n1 c1) (.slice a2 args.length c2) w:=by
 unfold bQ;have hb:=aA w (.cells #[.int .i64 6,.int .i64 n,.string s,.string m,.slice a1 n1 c1,.slice a2 args.length c2] 177);have HR:Hid (eW (.mk 6 n s m names args)=true):=zh rfl;exact sG
theorem leaf_7(n:Int)(s m:ByteArray)(names:List ByteArray)(args:List Xp)(a1:Option Addr)(n1 c1:Nat)(a2:Option Addr)(c2:Nat)(w:World)(hg:bV w)(hs:s.size<=8000)(hm:m.size<=8000):bQ (.mk 7 n s m names args) 7 n s m (.slice a1 n1 c1) (.slice a2 args.length c2) w:=by
 unfold bQ;have hb:=aA w (.cells #[.int .i64 7,.int .i64 n,.string s,.string m,.slice a1 n1 c1,.slice a2 args.length c2] 177);have HR:Hid (eW (.mk 7 n s m names args)=true):=zh rfl;exact sG
theorem leaf_8(n:Int)(s m:ByteArray)(names:List ByteArray)(args:List Xp)(a1:Option Addr)(n1 c1:Nat)(a2:Option Addr)(c2:Nat)(w:World)(hg:bV w)(hs:s.size<=8000)(hm:m.size<=8000):bQ (.mk 8 n s m names args) 8 n s m (.slice a1 n1 c1) (.slice a2 args.length c2) w:=by
 unfold bQ;have hb:=aA w (.cells #[.int .i64 8,.int .i64 n,.string s,.string m,.slice a1 n1 c1,.slice a2 args.length c2] 177);have HR:Hid (eW (.mk 8 n s m names args)=true):=zh rfl;exact sG
theorem leaf_9(n:Int)(s m:ByteArray)(names:List ByteArray)(args:List Xp)(a1:Option Addr)(n1 c1:Nat)(a2:Option Addr)(c2:Nat)(w:World)(hg:bV w)(hs:s.size<=8000)(hm:m.size<=8000):bQ (.mk 9 n s m names args) 9 n s m (.slice a1 n1 c1) (.slice a2 args.length c2) w:=by
 unfold bQ;have hb:=aA w (.cells #[.int .i64 9,.int .i64 n,.string s,.string m,.slice a1 n1 c1,.slice a2 args.length c2] 177);have HR:Hid (eW (.mk 9 n s m names args)=true):=zh rfl;exact sG
theorem leaf_10(n:Int)(s m:ByteArray)(names:List ByteArray)(args:List Xp)(a1:Option Addr)(n1 c1:Nat)(a2:Option Addr)(c2:Nat)(w:World)(hg:bV w)(hs:s.size<=8000)(hm:m.size<=8000):bQ (.mk 10 n s m names args) 10 n s m (.slice a1 n1 c1) (.slice a2 args.length c2) w:=by
 unfold bQ;have hb:=aA w (.cells #[.int .i64 10,.int .i64 n,.string s,.string m,.slice a1 n1 c1,.slice a2 args.length c2] 177);have HR:Hid (eW (.mk 10 n s m names args)=true):=zh rfl;exact sG
theorem leaf_11(n:Int)(s m:ByteArray)(names:List ByteArray)(args:List Xp)(a1:Option Addr)(n1 c1:Nat)(a2:Option Addr)(c2:Nat)(w:World)(hg:bV w)(hs:s.size<=8000)(hm:m.size<=8000):bQ (.mk 11 n s m names args) 11 n s m (.slice a1 n1 c1) (.slice a2 args.length c2) w:=by
 unfold bQ;have hb:=aA w (.cells #[.int .i64 11,.int .i64 n,.string s,.string m,.slice a1 n1 c1,.slice a2 args.length c2] 177);have HR:Hid (eW (.mk 11 n s m names args)=true):=zh rfl;exact sG
set_option maxHeartbeats 8000000
theorem rT{p:Prop}(h:p:=by
 try simp only[zn]
 refine zt 19 (.bool true) rfl (fun W hW=>vW) hS ?_;try simp only[zn]
 refine zt 20 (.bool true) rfl (fun W hW=>vW) hS ?_;try simp only[zn]
 refine wpAnyH_take (i:=21) (v:=undef) rfl vU vU vU (fun _ _ _ h=>h) (Or.inr ⟨vU,rfl⟩) hS ?_;try simp only[zn]
 refine wpAnyH_take (i:=22) (v:=undef) rfl vU vU vU (fun _ _ _ h=>h) (Or.inr ⟨vU,rfl⟩) hS ?_;try simp only[zn]
 refine wpAnyH_take (i:=23) (v:=undef) rfl vU vU vU (fun _ _ _ h=>h) (Or.inr ⟨vU,rfl⟩) hS ?_;try simp only[zn]
 refine wpAnyH_take (i:=24) (v:=undef) rfl vU vU vU (fun _ _ _ h=>h) (Or.inr ⟨vU,rfl⟩) hS ?_;try simp only[zn]
 refine wpAnyH_take (i:=25) (v:=undef) rfl vU vU vU (fun _ _ _ h=>h) (Or.inr ⟨vU,rfl⟩) hS ?_;try simp only[zn]
 refine wpAnyH_take (i:=26) (v:=undef) rfl vU vU vU (fun _ _ _ h=>h) (Or.inr ⟨vU,rfl⟩) hS ?_;try simp only[zn]
 refine zt 27 (.bool true) rfl (fun W hW=>vW) hS ?_;try simp only[zn]
 refine wpAnyH_done vU ?_ _;go_wp2_with fail;go_ret
 exact⟨aE xI,aB HB.out (aB (aA _ _) (aF _))⟩):p:=h
theorem tL{p:Prop}(h:p:=by
 go_enter Tryz.func197,Tryz.ntmps197;go_wp2_with fail;go_ret
 exact⟨aE xI,aA _ _⟩):p:=h
theorem tX{p:Prop}(h:p:=by
 go_enter Tryz.func197,Tryz.ntmps197;go_wp2_with fail;go_loop [39] (fun i=>i=.int .i64 0) (fun _=>0)
 case atStart=>rfl
 case round=>
  subst hrel;go_wp2_with fail;go_ret
  exact⟨aE (by rw[HT.out]),aA _ _⟩):p:=h
theorem uK{p:Prop}(h:p:=by
 obtain⟨hk,he⟩:=List.getElem?_eq_some_iff.1 hx
 rw[List.drop_eq_getElem_cons hk,he];rfl):p:=h
theorem uW{p:Prop}(h:p:=by
 have HF:Hid (cI (d+1) (.mk kind fs)=false):=zh (by rw[HS2.out];rfl);clear HS2;go_wp2_with fail;go_ret
 exact⟨aE xI,HB8.out⟩):p:=h
theorem fieldsOk_at{p:Ty->Bool}{fs:List Fld}{q:Nat}{nm:ByteArray}{t:Ty}(hx:fs[q]? =some (nm,t))(before:Option ByteArray):jF p before (fs.drop q)=(aT nm&&(match before with|none=>true|some b=>gtB nm b)&&p t&&jF p (some nm) (fs.drop (q+1))):=by
 exact uK
def oH(fs:List Fld)(q:Nat):Option ByteArray:=if q=0 then none else(fs[q-1]?).map (·.1)
theorem pE(t:TypeId)(a b:ByteArray)(w:World):(binOp .leq t (.string a) (.string b)).run Tryz.prog w=.ok (.bool (!gtB a b)) w:=by
 simp[binOp,Op.stringOp,gtB]
def RightTyAt(d:Nat):Prop:=∀(t:Ty)(N:Nat->Prop)(k:Int)(vf:Value)(w:World),d<=100->bV w->jG N w t [.int .i64 k,vf]->
  Calls Tryz.prog 197 #[.agg #[.int .i64 k,vf],.int .i64 (d:Int)] w fun e w'=>e=.returned (.bool (cI d t))/\Below w.heap.size w w'
theorem rightType_zero:RightTyAt 0:=by
  intro t N k vf w _ hg he
  cases t with
  |mk kind fs=>
   have HR:Hid (cI 0 (.mk kind fs)=false):=zh rfl;obtain⟨a,n,c,rfl⟩:=encT_slice he;clear he hg;go_enter Tryz.func197,Tryz.ntmps197;go_wp2_with fail;go_ret;exact⟨aE (by rw[HR.out]),aA _ _⟩
theorem rightType_step(d:Nat)(IH:RightTyAt d):RightTyAt (d+1):=by
  rintro⟨kind,fs⟩ N k' vf w hd hg he;have he0:=he;rw[iE] at he;obtain⟨vf',hv,hr⟩:=he;cases hv;have HIH:=zh (fun t N k vf w h2 h3=>IH t N k vf w vT h2 h3);have HG:=zh (fun W(hb:Below w.heap.size w W)=>hg.later hb);have HE0:=zh he0;have hcast:((d+1:Nat):Int)=(d:Int)+1:=vT;rw[hcast];have hd0:((d:Int)+1==0)=false:=wC;have hd1:(d:Int)<=100:=vT;have HR:Hid (cI (d+1) (.mk kind fs)=(decide (0<=kind)&&decide (kind<3)&&decide (fs.length<=8)&&(decide (kind=2)||decide (fs.length=0))&&jF (cI d) none fs)):=zh rfl;clear hcast hg he0
  have HBad:Hid (¬(0<=kind/\kind<3/\fs.length<=8/\(kind=2\/fs.length=0))->cI (d+1) (.mk kind fs)=false):=zh (fun h=>by
   rw[HR.out]
   cases hb:(decide (0<=kind)&&decide (kind<3)&&decide (fs.length<=8)&&(decide (kind=2)||decide (fs.length=0))&&jF (cI d) none fs) with
   |false=>rfl
   |true=>
    simp only[Bool.and_eq_true,Bool.or_eq_true,decide_eq_true_eq] at hb
    exact absurd ⟨hb.1.1.1.1,hb.1.1.1.2,hb.1.1.2,hb.1.2⟩ h)
  obtain⟨a,c,rfl,hlc⟩:∃a c,vf=.slice a fs.length c/\fs.length<=c:=by obtain⟨a,c,h1,h2,-⟩:=hr;exact⟨a,c,h1,h2⟩
  have hlb:fs.length<=9223372036854775807:=A1;by_cases g1:0<=kind
  ·have g1':¬kind<0:=vT;by_cases g2:kind<3
   ·have g2':¬3<=kind:=vT;by_cases g3:fs.length<=8
    ·have g3':¬(8:Int)<(fs.length:Int):=vT;by_cases g4:kind=2\/fs.length=0
     ·have HR2:Hid (cI (d+1) (.mk kind fs)=jF (cI d) none fs):=zh (by rw[HR.out,decide_eq_true g1,decide_eq_true g2,decide_eq_true g3];rcases g4 with h|h<;>simp[h]);have hrc:=hr.cases vV;clear HBad HR;rcases hrc with⟨rfl,a',c',hv⟩|⟨b,o,c',hv,h0,h1,h2,hb,hN,hc⟩
      ·have HT:Hid (cI (d+1) (.mk kind [])=true):=zh HR2.out;clear HR2 hv hr hlc hlb g4 g3 g3';by_cases g5:kind=2
       ·(have h5:(kind != 2)=false:=by rw[bne_eq_false_iff_eq];exact g5);clear g5;exact tX
       ·(have h5:(kind != 2)=true:=by rw[bne_iff_ne];exact g5);exact tX
      ·cases hv;(have hk:kind=2:=by rcases g4 with h|h;(exact h);omega);(have h5:(kind != 2)=false:=by rw[bne_eq_false_iff_eq];exact hk);have HC:=zh hc;have HBx:=zh (heap_alloc_new w (.cells #[.int .i64 kind,.slice (some ⟨b,o,none⟩) fs.length c] 175));clear hc hr g4 hk;go_enter Tryz.func197,Tryz.ntmps197;go_wp2_with fail;(go_loopw [39] (fun iv wr=>∃q:Nat,q<=fs.length/\iv=.int .i64 (q:Int)/\Hid (Below (w.alloc (.cells #[.int .i64 kind,.slice (some ⟨b,o,none⟩) fs.length c] 175)).heap.size (w.alloc (.cells #[.int .i64 kind,.slice (some ⟨b,o,none⟩) fs.length c] 175)) wr)/\Hid (cI (d+1) (.mk kind fs)=jF (cI d) (oH fs q) (fs.drop q))) (fun iv _=>fs.length-(intOf iv).toNat));case atStart=>exact⟨0,Nat.zero_le _,rfl,zh (Below.refl _ _),HR2⟩
       case round=>
        obtain⟨q,hq,rfl,HB1,HSp⟩:=hrel;(rename World=>wr);have HB:=zh (aB (aA w (.cells #[.int .i64 kind,.slice (some ⟨b,o,none⟩) fs.length c] 175)) HB1.out);by_cases hlt:q<fs.length
        ·obtain⟨x,hx,-⟩:=getElem?_of_lt hlt;obtain⟨cs,⟨ct,rfl,hn,het⟩,-,hj⟩:=HC.out q x hx;obtain⟨nm,ty⟩:=x
         cases ty with
         |mk k2 f2=>
          have het2:=het;rw[iE] at het2;obtain⟨vf2,rfl,hr2⟩:=het2;obtain⟨a2,c2,rfl,-⟩:=hr2;generalize f2.length=n2 at *;have p0:wr.cell? ⟨b,o+q*3,none⟩=some (.string nm):=aC HB.out (hj 0 _ rfl);have p1:=aC HB.out (hj 1 _ rfl);have p2:=aC HB.out (hj 2 _ rfl);have HL:=zh (fun W(h:Below w.heap.size w W)=>HIH.out (.mk k2 f2) N k2 _ W (HG.out W h) (fL _ _ _ _ _ _ (bX.later h) het));have HS1:=zh (HSp.out.trans (fieldsOk_at hx (oH fs q)));(have hpv:oH fs (q+1)=some nm:=by unfold oH;rw[if_neg vT,Nat.add_sub_cancel,hx];rfl);rw[<-hpv] at HS1;have hsz:nm.size<=8000:=hn;clear hj hpv het hn;generalize cI d (.mk k2 f2)=r0 at HL HS1;go_wp2_with fail;obtain⟨q0,q1,q2,-⟩:=bxT3 (heap_alloc_new wr (.cells #[.string nm,.int .i64 k2,.slice a2 n2 c2] 184));obtain⟨t0,t1,-⟩:=bxT2 (aD (aB HB1.out (aA wr (.cells #[.string nm,.int .i64 k2,.slice a2 n2 c2] 184))) HBx.out)
          cases hsn:aT nm with
          |false=>
           have HF:Hid (cI (d+1) (.mk kind fs)=false):=zh (by rw[HS1.out,hsn];rfl);clear HS1 HSp;refine wp_region_held_drew (S:=(fun W=>Below (wr.alloc (.cells #[.string nm,.int .i64 k2,.slice a2 n2 c2] 184)).heap.size (wr.alloc (.cells #[.string nm,.int .i64 k2,.slice a2 n2 c2] 184)) W)) vU (aF _) fun hS=>?_;refine zt 0 (.pointer (some ⟨wr.heap.size,0,none⟩)) rfl (fun W hW=>vW) hS ?_;(try simp only[zn]);refine zt 1 (.string nm) rfl (fun W hW=>wG) hS ?_;(try simp only[zn]);refine zr 2 rfl (fun K hK=>?_);(try simp only[z1,z2,z3]);go_simp;refine(fP nm (wr.alloc (.cells #[.string nm,.int .i64 k2,.slice a2 n2 c2] 184)).drew vT (HG.out _ (aB HB.out (aB (aA _ _) (aF _))))).mono ?_;rintro e w5 ⟨rfl,rfl⟩;rw[hsn];refine hK.out _ _ hS (fun hS=>?_);clear hK K;(try simp only[zn]);refine zt 3 (.bool true) rfl (fun W hW=>vW) hS ?_;(try simp only[zn]);refine zt 4 (.bool true) rfl (fun W hW=>vW) hS ?_;(try simp only[zn]);refine wpAnyH_take (i:=5) (v:=undef) rfl vU vU vU (fun _ _ _ h=>h) (Or.inr ⟨vU,rfl⟩) hS ?_;(try simp only[zn]);refine wpAnyH_take (i:=6) (v:=undef) rfl vU vU vU (fun _ _ _ h=>h) (Or.inr ⟨vU,rfl⟩) hS ?_;(try simp only[zn]);refine wpAnyH_take (i:=7) (v:=undef) rfl vU vU vU (fun _ _ _ h=>h) (Or.inr ⟨vU,rfl⟩) hS ?_;(try simp only[zn]);refine wpAnyH_take (i:=8) (v:=undef) rfl vU vU vU (fun _ _ _ h=>h) (Or.inr ⟨vU,rfl⟩) hS ?_;(try simp only[zn]);refine wpAnyH_take (i:=9) (v:=undef) rfl vU vU vU (fun _ _ _ h=>h) (Or.inr ⟨vU,rfl⟩) hS ?_;(try simp only[zn]);refine wpAnyH_take (i:=10) (v:=undef) rfl vU vU vU (fun _ _ _ h=>h) (Or.inr ⟨vU,rfl⟩) hS ?_;(try simp only[zn]);refine wpAnyH_take (i:=11) (v:=undef) rfl vU vU vU (fun _ _ _ h=>h) (Or.inr ⟨vU,rfl⟩) hS ?_;(try simp only[zn]);refine wpAnyH_take (i:=12) (v:=undef) rfl vU vU vU (fun _ _ _ h=>h) (Or.inr ⟨vU,rfl⟩) hS ?_;(try simp only[zn]);refine wpAnyH_take (i:=13) (v:=undef) rfl vU vU vU (fun _ _ _ h=>h) (Or.inr ⟨vU,rfl⟩) hS ?_;(try simp only[zn]);refine wpAnyH_take (i:=14) (v:=undef) rfl vU vU vU (fun _ _ _ h=>h) (Or.inr ⟨vU,rfl⟩) hS ?_;(try simp only[zn]);refine wpAnyH_take (i:=15) (v:=undef) rfl vU vU vU (fun _ _ _ h=>h) (Or.inr ⟨vU,rfl⟩) hS ?_;(try simp only[zn]);refine wpAnyH_take (i:=16) (v:=undef) rfl vU vU vU (fun _ _ _ h=>h) (Or.inr ⟨vU,rfl⟩) hS ?_;(try simp only[zn]);refine wpAnyH_take (i:=17) (v:=undef) rfl vU vU vU (fun _ _ _ h=>h) (Or.inr ⟨vU,rfl⟩) hS ?_;(try simp only[zn]);refine wpAnyH_take (i:=18) (v:=undef) rfl vU vU vU (fun _ _ _ h=>h) (Or.inr ⟨vU,rfl⟩) hS ?_;exact rT
          |true=>
           by_cases hq0:q=0
           ·subst hq0;have HS2:Hid (cI (d+1) (.mk kind fs)=(r0&&jF (cI d) (oH fs (0+1)) (fs.drop (0+1)))):=zh (by rw[HS1.out,hsn];simp[oH]);clear HS1 HSp;refine wp_region_held_drew (S:=(fun W=>Below (wr.alloc (.cells #[.string nm,.int .i64 k2,.slice a2 n2 c2] 184)).heap.size (wr.alloc (.cells #[.string nm,.int .i64 k2,.slice a2 n2 c2] 184)) W)) vU (aF _) fun hS=>?_;refine zt 0 (.pointer (some ⟨wr.heap.size,0,none⟩)) rfl (fun W hW=>vW) hS ?_;(try simp only[zn]);refine zt 1 (.string nm) rfl (fun W hW=>wG) hS ?_;(try simp only[zn]);refine zr 2 rfl (fun K hK=>?_);(try simp only[z1,z2,z3]);go_simp;refine(fP nm (wr.alloc (.cells #[.string nm,.int .i64 k2,.slice a2 n2 c2] 184)).drew vT (HG.out _ (aB HB.out (aB (aA _ _) (aF _))))).mono ?_;rintro e w5 ⟨rfl,rfl⟩;rw[hsn];refine hK.out _ _ hS (fun hS=>?_);clear hK K;(try simp only[zn]);refine zt 3 (.bool false) rfl (fun W hW=>vW) hS ?_;(try simp only[zn]);refine zt 4 (.bool false) rfl (fun W hW=>vW) hS ?_;(try simp only[zn]);refine zt 5 (.int .i64 0) rfl (fun W hW=>vW) hS ?_;(try simp only[zn]);refine zt 6 (.bool false) rfl (fun W hW=>vW) hS ?_;(try simp only[zn]);refine zt 7 (.bool false) rfl (fun W hW=>vW) hS ?_;(try simp only[zn]);refine wpAnyH_take (i:=8) (v:=undef) rfl vU vU vU (fun _ _ _ h=>h) (Or.inr ⟨vU,rfl⟩) hS ?_;(try simp only[zn]);refine wpAnyH_take (i:=9) (v:=undef) rfl vU vU vU (fun _ _ _ h=>h) (Or.inr ⟨vU,rfl⟩) hS ?_;(try simp only[zn]);refine wpAnyH_take (i:=10) (v:=undef) rfl vU vU vU (fun _ _ _ h=>h) (Or.inr ⟨vU,rfl⟩) hS ?_;(try simp only[zn]);refine wpAnyH_take (i:=11) (v:=undef) rfl vU vU vU (fun _ _ _ h=>h) (Or.inr ⟨vU,rfl⟩) hS ?_;(try simp only[zn]);refine wpAnyH_take (i:=12) (v:=undef) rfl vU vU vU (fun _ _ _ h=>h) (Or.inr ⟨vU,rfl⟩) hS ?_;(try simp only[zn]);refine wpAnyH_take (i:=13) (v:=undef) rfl vU vU vU (fun _ _ _ h=>h) (Or.inr ⟨vU,rfl⟩) hS ?_;(try simp only[zn]);refine wpAnyH_take (i:=14) (v:=undef) rfl vU vU vU (fun _ _ _ h=>h) (Or.inr ⟨vU,rfl⟩) hS ?_;(try simp only[zn]);refine wpAnyH_take (i:=15) (v:=undef) rfl vU vU vU (fun _ _ _ h=>h) (Or.inr ⟨vU,rfl⟩) hS ?_;(try simp only[zn]);refine wpAnyH_take (i:=16) (v:=undef) rfl vU vU vU (fun _ _ _ h=>h) (Or.inr ⟨vU,rfl⟩) hS ?_;(try simp only[zn]);refine wpAnyH_take (i:=17) (v:=undef) rfl vU vU vU (fun _ _ _ h=>h) (Or.inr ⟨vU,rfl⟩) hS ?_;(try simp only[zn]);refine zt 18 (.bool false) rfl (fun W hW=>vW) hS ?_;(try simp only[zn]);refine zt 19 (.bool false) rfl (fun W hW=>vW) hS ?_;(try simp only[zn]);refine zt 20 (.bool false) rfl (fun W hW=>vW) hS ?_;(try simp only[zn]);refine zt 21 (.pointer (some ⟨wr.heap.size,1,none⟩)) rfl (fun W hW=>vW) hS ?_;(try simp only[zn]);refine zt 22 (.agg #[.int .i64 k2,.slice a2 n2 c2]) rfl (fun W hW=>wG) hS ?_;(try simp only[zn]);refine zt 23 (.int .i64 ((d:Int)+1)) rfl (fun W hW=>vW) hS ?_;(try simp only[zn]);refine zt 24 (.int .i64 (d:Int)) rfl (fun W hW=>AA) hS ?_;(try simp only[zn]);refine zr 25 rfl (fun K hK=>?_);(try simp only[z1,z2,z3]);go_simp;refine(HL.out _ (aB HB.out (aB (aA _ _) (aF _)))).mono ?_;rintro e w6 ⟨rfl,hb6⟩;have hS6:Below (wr.alloc (.cells #[.string nm,.int .i64 k2,.slice a2 n2 c2] 184)).heap.size (wr.alloc (.cells #[.string nm,.int .i64 k2,.slice a2 n2 c2] 184)) w6:=aB (aF _) hb6;refine hK.out _ _ hS6 (fun hS=>?_);clear hK K;(try simp only[zn]);refine zt 26 (.bool (!r0)) rfl (fun W hW=>vW) hS ?_;(try simp only[zn]);refine zt 27 (.bool (!r0)) rfl (fun W hW=>vW) hS ?_;(try simp only[zn]);refine wpAnyH_done vU ?_ _;have HB7:=zh (aB HB1.out (aB (aA wr (.cells #[.string nm,.int .i64 k2,.slice a2 n2 c2] 184)) hS6));have HB8:=zh (aB (aA w (.cells #[.int .i64 kind,.slice (some ⟨b,o,none⟩) fs.length c] 175)) HB7.out)
            cases r0 with
            |false=>
             exact uW
            |true=>
             have HS3:Hid (cI (d+1) (.mk kind fs)=jF (cI d) (oH fs (0+1)) (fs.drop (0+1))):=zh (by rw[HS2.out];rfl);clear HS2 hS hS6 hb6 HL q0 q1 q2 t0 t1 p0 p1 p2;go_wp2_with fail;go_roundw;(case rel=>exact⟨0+1,vT,wH,HB7,HS3⟩);case measure=>simp[intOf];omega
           ·have hq1:0<q:=vT;obtain⟨y,hy,-⟩:=getElem?_of_lt (l:=fs) (k:=q-1) vT;obtain⟨cs',⟨ct',rfl,hn',het'⟩,-,hj'⟩:=HC.out (q-1) y hy;obtain⟨pn,ty'⟩:=y;have hp0:(wr.alloc (.cells #[.string nm,.int .i64 k2,.slice a2 n2 c2] 184)).cell? ⟨b,o+(q-1)*3,none⟩=some (.string pn):=aC (aB HB.out (aA _ _)) AR;(have hpv:oH fs q=some pn:=by unfold oH;rw[if_neg hq0,hy];rfl);rw[hpv] at HS1;clear hj' het' hn' hpv
            cases hgt:gtB nm pn with
            |false=>
             (have hleq:∀W,(binOp .leq 9 (.string nm) (.string pn)).run Tryz.prog W=.ok (.bool true) W:=fun W=>by rw[pE,hgt];rfl);have HF:Hid (cI (d+1) (.mk kind fs)=false):=zh yE;clear HS1 HSp;refine wp_region_held_drew (S:=(fun W=>Below (wr.alloc (.cells #[.string nm,.int .i64 k2,.slice a2 n2 c2] 184)).heap.size (wr.alloc (.cells #[.string nm,.int .i64 k2,.slice a2 n2 c2] 184)) W)) vU (aF _) fun hS=>?_;refine zt 0 (.pointer (some ⟨wr.heap.size,0,none⟩)) rfl (fun W hW=>vW) hS ?_;(try simp only[zn]);refine zt 1 (.string nm) rfl (fun W hW=>wG) hS ?_;(try simp only[zn]);refine zr 2 rfl (fun K hK=>?_);(try simp only[z1,z2,z3]);go_simp;refine(fP nm (wr.alloc (.cells #[.string nm,.int .i64 k2,.slice a2 n2 c2] 184)).drew vT (HG.out _ (aB HB.out (aB (aA _ _) (aF _))))).mono ?_;rintro e w5 ⟨rfl,rfl⟩;rw[hsn];refine hK.out _ _ hS (fun hS=>?_);clear hK K;(try simp only[zn]);refine zt 3 (.bool false) rfl (fun W hW=>vW) hS ?_;(try simp only[zn]);refine zt 4 (.bool false) rfl (fun W hW=>vW) hS ?_;(try simp only[zn]);refine zt 5 (.int .i64 (q:Int)) rfl (fun W hW=>vW) hS ?_;(try simp only[zn]);refine zt 6 (.bool true) rfl (fun W hW=>vW) hS ?_;(try simp only[zn]);refine zt 7 (.bool true) rfl (fun W hW=>vW) hS ?_;(try simp only[zn]);refine zt 8 (.pointer (some ⟨wr.heap.size,0,none⟩)) rfl (fun W hW=>vW) hS ?_;(try simp only[zn]);refine zt 9 (.string nm) rfl (fun W hW=>wG) hS ?_;(try simp only[zn]);refine zt 10 (.pointer (some ⟨w.heap.size,1,none⟩)) rfl (fun W hW=>vW) hS ?_;(try simp only[zn]);refine zt 11 (.slice (some ⟨b,o,none⟩) fs.length c) rfl (fun W hW=>wG) hS ?_;(try simp only[zn]);refine zt 12 (.int .i64 (q:Int)) rfl (fun W hW=>vW) hS ?_;(try simp only[zn]);refine zt 13 (.int .i64 ((q:Int)-1)) rfl (fun W hW=>zR) hS ?_;(try simp only[zn]);refine zt 14 (.pointer (some ⟨b,o+(q-1)*3,none⟩)) rfl (fun W hW=>xR) hS ?_;(try simp only[zn]);refine zt 15 (.pointer (some ⟨b,o+(q-1)*3,none⟩)) rfl (fun W hW=>vW) hS ?_;(try simp only[zn]);refine zt 16 (.string pn) rfl (fun W hW=>yI) hS ?_;(try simp only[zn]);refine zt 17 (.bool true) rfl (fun W hW=>by have hle:=hleq W;go_simp) hS ?_;(try simp only[zn]);refine zt 18 (.bool true) rfl (fun W hW=>vW) hS ?_;exact rT
            |true=>
             (have hleq:∀W,(binOp .leq 9 (.string nm) (.string pn)).run Tryz.prog W=.ok (.bool false) W:=fun W=>by rw[pE,hgt];rfl);have HS2:Hid (cI (d+1) (.mk kind fs)=(r0&&jF (cI d) (oH fs (q+1)) (fs.drop (q+1)))):=zh yE;clear HS1 HSp;refine wp_region_held_drew (S:=(fun W=>Below (wr.alloc (.cells #[.string nm,.int .i64 k2,.slice a2 n2 c2] 184)).heap.size (wr.alloc (.cells #[.string nm,.int .i64 k2,.slice a2 n2 c2] 184)) W)) vU (aF _) fun hS=>?_;refine zt 0 (.pointer (some ⟨wr.heap.size,0,none⟩)) rfl (fun W hW=>vW) hS ?_;(try simp only[zn]);refine zt 1 (.string nm) rfl (fun W hW=>wG) hS ?_;(try simp only[zn]);refine zr 2 rfl (fun K hK=>?_);(try simp only[z1,z2,z3]);go_simp;refine(fP nm (wr.alloc (.cells #[.string nm,.int .i64 k2,.slice a2 n2 c2] 184)).drew vT (HG.out _ (aB HB.out (aB (aA _ _) (aF _))))).mono ?_;rintro e w5 ⟨rfl,rfl⟩;rw[hsn];refine hK.out _ _ hS (fun hS=>?_);clear hK K;(try simp only[zn]);refine zt 3 (.bool false) rfl (fun W hW=>vW) hS ?_;(try simp only[zn]);refine zt 4 (.bool false) rfl (fun W hW=>vW) hS ?_;(try simp only[zn]);refine zt 5 (.int .i64 (q:Int)) rfl (fun W hW=>vW) hS ?_;(try simp only[zn]);refine zt 6 (.bool true) rfl (fun W hW=>vW) hS ?_;(try simp only[zn]);refine zt 7 (.bool true) rfl (fun W hW=>vW) hS ?_;(try simp only[zn]);refine zt 8 (.pointer (some ⟨wr.heap.size,0,none⟩)) rfl (fun W hW=>vW) hS ?_;(try simp only[zn]);refine zt 9 (.string nm) rfl (fun W hW=>wG) hS ?_;(try simp only[zn]);refine zt 10 (.pointer (some ⟨w.heap.size,1,none⟩)) rfl (fun W hW=>vW) hS ?_;(try simp only[zn]);refine zt 11 (.slice (some ⟨b,o,none⟩) fs.length c) rfl (fun W hW=>wG) hS ?_;(try simp only[zn]);refine zt 12 (.int .i64 (q:Int)) rfl (fun W hW=>vW) hS ?_;(try simp only[zn]);refine zt 13 (.int .i64 ((q:Int)-1)) rfl (fun W hW=>zR) hS ?_;(try simp only[zn]);refine zt 14 (.pointer (some ⟨b,o+(q-1)*3,none⟩)) rfl (fun W hW=>xR) hS ?_;(try simp only[zn]);refine zt 15 (.pointer (some ⟨b,o+(q-1)*3,none⟩)) rfl (fun W hW=>vW) hS ?_;(try simp only[zn]);refine zt 16 (.string pn) rfl (fun W hW=>yI) hS ?_;(try simp only[zn]);refine zt 17 (.bool false) rfl (fun W hW=>by have hle:=hleq W;go_simp) hS ?_;(try simp only[zn]);refine zt 18 (.bool false) rfl (fun W hW=>vW) hS ?_;(try simp only[zn]);refine zt 19 (.bool false) rfl (fun W hW=>vW) hS ?_;(try simp only[zn]);refine zt 20 (.bool false) rfl (fun W hW=>vW) hS ?_;(try simp only[zn]);refine zt 21 (.pointer (some ⟨wr.heap.size,1,none⟩)) rfl (fun W hW=>vW) hS ?_;(try simp only[zn]);refine zt 22 (.agg #[.int .i64 k2,.slice a2 n2 c2]) rfl (fun W hW=>wG) hS ?_;(try simp only[zn]);refine zt 23 (.int .i64 ((d:Int)+1)) rfl (fun W hW=>vW) hS ?_;(try simp only[zn]);refine zt 24 (.int .i64 (d:Int)) rfl (fun W hW=>AA) hS ?_;(try simp only[zn]);refine zr 25 rfl (fun K hK=>?_);(try simp only[z1,z2,z3]);go_simp;refine(HL.out _ (aB HB.out (aB (aA _ _) (aF _)))).mono ?_;rintro e w6 ⟨rfl,hb6⟩;have hS6:Below (wr.alloc (.cells #[.string nm,.int .i64 k2,.slice a2 n2 c2] 184)).heap.size (wr.alloc (.cells #[.string nm,.int .i64 k2,.slice a2 n2 c2] 184)) w6:=aB (aF _) hb6;refine hK.out _ _ hS6 (fun hS=>?_);clear hK K;(try simp only[zn]);refine zt 26 (.bool (!r0)) rfl (fun W hW=>vW) hS ?_;(try simp only[zn]);refine zt 27 (.bool (!r0)) rfl (fun W hW=>vW) hS ?_;(try simp only[zn]);refine wpAnyH_done vU ?_ _;have HB7:=zh (aB HB1.out (aB (aA wr (.cells #[.string nm,.int .i64 k2,.slice a2 n2 c2] 184)) hS6));have HB8:=zh (aB (aA w (.cells #[.int .i64 kind,.slice (some ⟨b,o,none⟩) fs.length c] 175)) HB7.out)
             cases r0 with
             |false=>
              exact uW
             |true=>
              have HS3:Hid (cI (d+1) (.mk kind fs)=jF (cI d) (oH fs (q+1)) (fs.drop (q+1))):=zh (by rw[HS2.out];rfl);clear HS2 hS hS6 hb6 HL q0 q1 q2 t0 t1 p0 p1 p2;go_wp2_with fail;go_roundw;(case rel=>exact⟨q+1,vT,wH,HB7,HS3⟩);case measure=>simp[intOf];omega
        ·have hq':q=fs.length:=vT;have HT:Hid (cI (d+1) (.mk kind fs)=true):=zh yK;go_wp2_with fail;go_ret;exact⟨aE (by rw[HT.out]),HB.out⟩
     ·have h4:¬kind=2:=fun e=>g4 (.inl e);(have h4':(kind != 2)=true:=by rw[bne_iff_ne];exact h4);(have h5:(0:Int)<(fs.length:Int):=by have:¬fs.length=0:=fun e=>g4 (.inr e);omega);have HF:=zh (HBad.out (fun h=>g4 h.2.2.2));clear HBad g4;exact tL
    ·have g3':(8:Int)<(fs.length:Int):=vT;have HF:=zh (HBad.out (fun h=>g3 h.2.2.1));clear HBad;exact tL
   ·have g2':3<=kind:=vT;have HF:=zh (HBad.out (fun h=>g2 h.2.1));clear HBad;exact tL
  ·have g1':kind<0:=vT;have HF:=zh (HBad.out (fun h=>g1 h.1));clear HBad;exact tL
theorem rightType_any:∀(d:Nat)(t:Ty)(N:Nat->Prop)(k:Int)(vf:Value)(w:World),d<=100->bV w->jG N w t [.int .i64 k,vf]->
  Calls Tryz.prog 197 #[.agg #[.int .i64 k,vf],.int .i64 (d:Int)] w fun e w'=>e=.returned (.bool (cI d t))/\Below w.heap.size w w':=fun d=>by
 induction d with
 |zero=>exact rightType_zero
 |succ d ih=>exact rightType_step d ih
set_option maxHeartbeats 4000000
theorem sV{p:Prop}(h:p:=by
 clear HS1 HSp;go_wp2_with(go_at_call 147;refine(eJ x wr hzx (HG.out _ HB.out)).mono ?_;rintro e w5 ⟨rfl,rfl⟩;rw[hsn]);go_ret
 exact⟨aE xI,HB.out⟩):p:=h
theorem eJ(s:ByteArray)(w:World)(hs:s.size<=140737488355328)(hg:bV w):
  Calls Tryz.prog 147 #[.string s] w fun e w'=>e=.returned (.bool (aT s))/\w=w':=by
 exact sA
theorem namesOk_at{l:List ByteArray}{q:Nat}{x:ByteArray}(hx:l[q]? =some x)(before:Option ByteArray):pK before (l.drop q)=(aT x&&(match before with|none=>true|some b=>gtB x b)&&pK (some x) (l.drop (q+1))):=by
 exact uK
def mL(l:List ByteArray)(q:Nat):Option ByteArray:=if q=0 then none else l[q-1]?
theorem leaf_13(n:Int)(s m:ByteArray)(names:List ByteArray)(args:List Xp)(N:Nat->Prop)(vn:Value)(a2:Option Addr)(n2 c2:Nat)(w:World)(hg:bV w)(hr:aK 1 bM N w vn names):bQ (.mk 13 n s m names args) 13 n s m vn (.slice a2 n2 c2) w:=by
 unfold bQ;have HG:=zh (fun W(hb:Below w.heap.size w W)=>hg.later hb);have HR:Hid (eW (.mk 13 n s m names args)=(pK none names&&decide (names.length<=8))):=zh rfl;have HD:Hid (decide ((names.length:Int)<=8)=decide (names.length<=8)):=zh xE;clear hg;have hlb:names.length<=9223372036854775807:=A1;rcases hr.cases vV with⟨rfl,a,c,rfl⟩|⟨b,o,c,rfl,h0,h1,h2,hb,hN,hc⟩
 ·clear hr;go_enter Tryz.func225,Tryz.ntmps225;go_wp2_with fail;go_loop [82] (fun i=>i=.int .i64 0) (fun _=>0)
  case atStart=>rfl
  case round=>
   subst hrel;go_wp2_with fail;go_ret;exact⟨aE xO,aA _ _⟩
 ·have HC:=zh hc;have HBx:=zh (heap_alloc_new w (.cells #[.int .i64 13,.int .i64 n,.string s,.string m,.slice (some ⟨b,o,none⟩) names.length c,.slice a2 n2 c2] 177));clear hc hr;go_enter Tryz.func225,Tryz.ntmps225;go_wp2_with fail;go_loopw [82] (fun iv wr=>∃q:Nat,q<=names.length/\iv=.int .i64 (q:Int)/\Hid (Below (w.alloc (.cells #[.int .i64 13,.int .i64 n,.string s,.string m,.slice (some ⟨b,o,none⟩) names.length c,.slice a2 n2 c2] 177)).heap.size (w.alloc (.cells #[.int .i64 13,.int .i64 n,.string s,.string m,.slice (some ⟨b,o,none⟩) names.length c,.slice a2 n2 c2] 177)) wr)/\Hid (eW (.mk 13 n s m names args)=(pK (mL names q) (names.drop q)&&decide (names.length<=8)))) (fun iv _=>names.length-(intOf iv).toNat)
  case atStart=>exact⟨0,Nat.zero_le _,rfl,zh (Below.refl _ _),HR⟩
  case round=>
   obtain⟨q,hq,rfl,HB1,HSp⟩:=hrel;(rename World=>wr);have HB:=zh (aB (aA w (.cells #[.int .i64 13,.int .i64 n,.string s,.string m,.slice (some ⟨b,o,none⟩) names.length c,.slice a2 n2 c2] 177)) HB1.out);obtain⟨⟨t0,t1,t2,t3,t4,t5⟩,-⟩:=bx6 (aD HB1.out HBx.out);by_cases hlt:q<names.length
   ·obtain⟨x,hx,hmem⟩:=getElem?_of_lt hlt;obtain⟨cs,⟨rfl,hzx⟩,-,hj⟩:=HC.out q x hx;have p0:wr.cell? ⟨b,o+q,none⟩=some (.string x):=aC HB.out zH;have HS1:=zh (HSp.out.trans (congrArg (fun z=>z&&decide (names.length<=8)) (namesOk_at hx (mL names q))));(have hpv:mL names (q+1)=some x:=by unfold mL;rw[if_neg vT,Nat.add_sub_cancel,hx]);rw[<-hpv] at HS1;clear hj hpv hmem
    cases hsn:aT x with
    |false=>
     have HF:Hid (eW (.mk 13 n s m names args)=false):=zh (by rw[HS1.out,hsn];rfl);exact sV
    |true=>
     by_cases hq0:q=0
     ·subst hq0;(have p00:wr.cell? ⟨b,o,none⟩=some (.string x):=by simpa using p0);have HS2:Hid (eW (.mk 13 n s m names args)=(pK (mL names (0+1)) (names.drop (0+1))&&decide (names.length<=8))):=zh (by rw[HS1.out,hsn];simp[mL]);clear HS1 HSp;go_wp2_with(go_at_call 147;refine(eJ x wr hzx (HG.out _ HB.out)).mono ?_;rintro e w5 ⟨rfl,rfl⟩;rw[hsn]);go_roundw;(case rel=>exact⟨0+1,vT,wH,HB1,HS2⟩);case measure=>simp[intOf];omega
     ·have hq1:0<q:=vT;obtain⟨y,hy,-⟩:=getElem?_of_lt (l:=names) (k:=q-1) vT;obtain⟨cs',⟨rfl,-⟩,-,hj'⟩:=HC.out (q-1) y hy;have hp0:wr.cell? ⟨b,o+(q-1),none⟩=some (.string y):=aC HB.out AR;(have hpv:mL names q=some y:=by unfold mL;rw[if_neg hq0,hy]);rw[hpv] at HS1;clear hj' hpv;have hi0:(0:Int)<(q:Int):=vT;have hi1:(0:Int)<=(q:Int)-1:=vT;have hi2:(q:Int)-1<(names.length:Int):=vT;have hi3:((q:Int)-1).toNat=q-1:=vT;have hi4:¬(q:Int)<1:=vT
      cases hgt:gtB x y with
      |false=>
       (have hleq:∀W,(binOp .leq 9 (.string x) (.string y)).run Tryz.prog W=.ok (.bool true) W:=fun W=>by rw[pE,hgt];rfl);have HF:Hid (eW (.mk 13 n s m names args)=false):=zh yE;exact sV
      |true=>
       (have hleq:∀W,(binOp .leq 9 (.string x) (.string y)).run Tryz.prog W=.ok (.bool false) W:=fun W=>by rw[pE,hgt];rfl);have HS2:Hid (eW (.mk 13 n s m names args)=(pK (mL names (q+1)) (names.drop (q+1))&&decide (names.length<=8))):=zh yE;clear HS1 HSp;go_wp2_with(go_at_call 147;refine(eJ x wr hzx (HG.out _ HB.out)).mono ?_;rintro e w5 ⟨rfl,rfl⟩;rw[hsn]);go_roundw;(case rel=>exact⟨q+1,vT,wH,HB1,HS2⟩);case measure=>simp[intOf];omega
   ·have hq':q=names.length:=vT;have HT:Hid (eW (.mk 13 n s m names args)=decide (names.length<=8)):=zh yK;exact uD
theorem rC{p:Prop}(h:p:=by
 repeat(first|exact Below.refl _ _|refine Below.drew ?_|refine Below.alloc ?_ xH _|refine Below.setCell ?_ xH _)):p:=h
theorem clean_0(n:Int)(s m:ByteArray)(a1:Option Addr)(n1 c1:Nat)(a2:Option Addr)(n2 c2:Nat)(w:World):
  Calls Tryz.prog 224 #[.agg #[.int .i64 0,.int .i64 n,.string s,.string m,.slice a1 n1 c1,.slice a2 n2 c2]] w fun e w'=>e=.returned (.tuple #[.agg #[.int .i64 0,.int .i64 n,.string ⟨#[]⟩,.string ⟨#[]⟩,.slice none 0 0,.slice a2 n2 c2],.int .i64 0])/\Below w.heap.size w w':=by
 go_enter Tryz.func224,Tryz.ntmps224;go_wp2_with fail;refine bodyPost_ret (v:=.tuple #[.agg #[.int .i64 0,.int .i64 n,.string ⟨#[]⟩,.string ⟨#[]⟩,.slice none 0 0,.slice a2 n2 c2],.int .i64 0]) wO rfl ⟨rfl,?_⟩;exact rC
theorem clean_1(n:Int)(s m:ByteArray)(a1:Option Addr)(n1 c1:Nat)(a2:Option Addr)(n2 c2:Nat)(w:World):
  Calls Tryz.prog 224 #[.agg #[.int .i64 1,.int .i64 n,.string s,.string m,.slice a1 n1 c1,.slice a2 n2 c2]] w fun e w'=>e=.returned (.tuple #[.agg #[.int .i64 1,.int .i64 n,.string ⟨#[]⟩,.string ⟨#[]⟩,.slice none 0 0,.slice a2 n2 c2],.int .i64 0])/\Below w.heap.size w w':=by
 go_enter Tryz.func224,Tryz.ntmps224;go_wp2_with fail;refine bodyPost_ret (v:=.tuple #[.agg #[.int .i64 1,.int .i64 n,.string ⟨#[]⟩,.string ⟨#[]⟩,.slice none 0 0,.slice a2 n2 c2],.int .i64 0]) wO rfl ⟨rfl,?_⟩;exact rC
theorem clean_2(n:Int)(s m:ByteArray)(a1:Option Addr)(n1 c1:Nat)(a2:Option Addr)(n2 c2:Nat)(w:World):
  Calls Tryz.prog 224 #[.agg #[.int .i64 2,.int .i64 n,.string s,.string m,.slice a1 n1 c1,.slice a2 n2 c2]] w fun e w'=>e=.returned (.tuple #[.agg #[.int .i64 2,.int .i64 0,.string s,.string ⟨#[]⟩,.slice none 0 0,.slice a2 n2 c2],.int .i64 0])/\Below w.heap.size w w':=by
 go_enter Tryz.func224,Tryz.ntmps224;go_wp2_with fail;refine bodyPost_ret (v:=.tuple #[.agg #[.int .i64 2,.int .i64 0,.string s,.string ⟨#[]⟩,.slice none 0 0,.slice a2 n2 c2],.int .i64 0]) wO rfl ⟨rfl,?_⟩;exact rC
theorem clean_3(n:Int)(s m:ByteArray)(a1:Option Addr)(n1 c1:Nat)(a2:Option Addr)(n2 c2:Nat)(w:World):
  Calls Tryz.prog 224 #[.agg #[.int .i64 3,.int .i64 n,.string s,.string m,.slice a1 n1 c1,.slice a2 n2 c2]] w fun e w'=>e=.returned (.tuple #[.agg #[.int .i64 3,.int .i64 0,.string ⟨#[]⟩,.string ⟨#[]⟩,.slice none 0 0,.slice a2 n2 c2],.int .i64 2])/\Below w.heap.size w w':=by
 go_enter Tryz.func224,Tryz.ntmps224;go_wp2_with fail;refine bodyPost_ret (v:=.tuple #[.agg #[.int .i64 3,.int .i64 0,.string ⟨#[]⟩,.string ⟨#[]⟩,.slice none 0 0,.slice a2 n2 c2],.int .i64 2]) wO rfl ⟨rfl,?_⟩;exact rC
theorem clean_4(n:Int)(s m:ByteArray)(a1:Option Addr)(n1 c1:Nat)(a2:Option Addr)(n2 c2:Nat)(w:World):
  Calls Tryz.prog 224 #[.agg #[.int .i64 4,.int .i64 n,.string s,.string m,.slice a1 n1 c1,.slice a2 n2 c2]] w fun e w'=>e=.returned (.tuple #[.agg #[.int .i64 4,.int .i64 0,.string ⟨#[]⟩,.string ⟨#[]⟩,.slice none 0 0,.slice a2 n2 c2],.int .i64 2])/\Below w.heap.size w w':=by
 go_enter Tryz.func224,Tryz.ntmps224;go_wp2_with fail;refine bodyPost_ret (v:=.tuple #[.agg #[.int .i64 4,.int .i64 0,.string ⟨#[]⟩,.string ⟨#[]⟩,.slice none 0 0,.slice a2 n2 c2],.int .i64 2]) wO rfl ⟨rfl,?_⟩;exact rC
theorem clean_5(n:Int)(s m:ByteArray)(a1:Option Addr)(n1 c1:Nat)(a2:Option Addr)(n2 c2:Nat)(w:World):
  Calls Tryz.prog 224 #[.agg #[.int .i64 5,.int .i64 n,.string s,.string m,.slice a1 n1 c1,.slice a2 n2 c2]] w fun e w'=>e=.returned (.tuple #[.agg #[.int .i64 5,.int .i64 0,.string ⟨#[]⟩,.string ⟨#[]⟩,.slice none 0 0,.slice a2 n2 c2],.int .i64 2])/\Below w.heap.size w w':=by
 go_enter Tryz.func224,Tryz.ntmps224;go_wp2_with fail;refine bodyPost_ret (v:=.tuple #[.agg #[.int .i64 5,.int .i64 0,.string ⟨#[]⟩,.string ⟨#[]⟩,.slice none 0 0,.slice a2 n2 c2],.int .i64 2]) wO rfl ⟨rfl,?_⟩;exact rC
theorem clean_6(n:Int)(s m:ByteArray)(a1:Option Addr)(n1 c1:Nat)(a2:Option Addr)(n2 c2:Nat)(w:World):
  Calls Tryz.prog 224 #[.agg #[.int .i64 6,.int .i64 n,.string s,.string m,.slice a1 n1 c1,.slice a2 n2 c2]] w fun e w'=>e=.returned (.tuple #[.agg #[.int .i64 6,.int .i64 0,.string ⟨#[]⟩,.string ⟨#[]⟩,.slice none 0 0,.slice a2 n2 c2],.int .i64 2])/\Below w.heap.size w w':=by
 go_enter Tryz.func224,Tryz.ntmps224;go_wp2_with fail;refine bodyPost_ret (v:=.tuple #[.agg #[.int .i64 6,.int .i64 0,.string ⟨#[]⟩,.string ⟨#[]⟩,.slice none 0 0,.slice a2 n2 c2],.int .i64 2]) wO rfl ⟨rfl,?_⟩;exact rC
theorem clean_7(n:Int)(s m:ByteArray)(a1:Option Addr)(n1 c1:Nat)(a2:Option Addr)(n2 c2:Nat)(w:World):
  Calls Tryz.prog 224 #[.agg #[.int .i64 7,.int .i64 n,.string s,.string m,.slice a1 n1 c1,.slice a2 n2 c2]] w fun e w'=>e=.returned (.tuple #[.agg #[.int .i64 7,.int .i64 0,.string ⟨#[]⟩,.string ⟨#[]⟩,.slice none 0 0,.slice a2 n2 c2],.int .i64 2])/\Below w.heap.size w w':=by
 go_enter Tryz.func224,Tryz.ntmps224;go_wp2_with fail;refine bodyPost_ret (v:=.tuple #[.agg #[.int .i64 7,.int .i64 0,.string ⟨#[]⟩,.string ⟨#[]⟩,.slice none 0 0,.slice a2 n2 c2],.int .i64 2]) wO rfl ⟨rfl,?_⟩;exact rC
theorem clean_8(n:Int)(s m:ByteArray)(a1:Option Addr)(n1 c1:Nat)(a2:Option Addr)(n2 c2:Nat)(w:World):
  Calls Tryz.prog 224 #[.agg #[.int .i64 8,.int .i64 n,.string s,.string m,.slice a1 n1 c1,.slice a2 n2 c2]] w fun e w'=>e=.returned (.tuple #[.agg #[.int .i64 8,.int .i64 0,.string ⟨#[]⟩,.string ⟨#[]⟩,.slice none 0 0,.slice a2 n2 c2],.int .i64 2])/\Below w.heap.size w w':=by
 go_enter Tryz.func224,Tryz.ntmps224;go_wp2_with fail;refine bodyPost_ret (v:=.tuple #[.agg #[.int .i64 8,.int .i64 0,.string ⟨#[]⟩,.string ⟨#[]⟩,.slice none 0 0,.slice a2 n2 c2],.int .i64 2]) wO rfl ⟨rfl,?_⟩;exact rC
theorem clean_9(n:Int)(s m:ByteArray)(a1:Option Addr)(n1 c1:Nat)(a2:Option Addr)(n2 c2:Nat)(w:World):
  Calls Tryz.prog 224 #[.agg #[.int .i64 9,.int .i64 n,.string s,.string m,.slice a1 n1 c1,.slice a2 n2 c2]] w fun e w'=>e=.returned (.tuple #[.agg #[.int .i64 9,.int .i64 0,.string ⟨#[]⟩,.string ⟨#[]⟩,.slice none 0 0,.slice a2 n2 c2],.int .i64 2])/\Below w.heap.size w w':=by
 go_enter Tryz.func224,Tryz.ntmps224;go_wp2_with fail;refine bodyPost_ret (v:=.tuple #[.agg #[.int .i64 9,.int .i64 0,.string ⟨#[]⟩,.string ⟨#[]⟩,.slice none 0 0,.slice a2 n2 c2],.int .i64 2]) wO rfl ⟨rfl,?_⟩;exact rC
theorem clean_10(n:Int)(s m:ByteArray)(a1:Option Addr)(n1 c1:Nat)(a2:Option Addr)(n2 c2:Nat)(w:World):
  Calls Tryz.prog 224 #[.agg #[.int .i64 10,.int .i64 n,.string s,.string m,.slice a1 n1 c1,.slice a2 n2 c2]] w fun e w'=>e=.returned (.tuple #[.agg #[.int .i64 10,.int .i64 0,.string ⟨#[]⟩,.string ⟨#[]⟩,.slice none 0 0,.slice a2 n2 c2],.int .i64 1])/\Below w.heap.size w w':=by
 go_enter Tryz.func224,Tryz.ntmps224;go_wp2_with fail;refine bodyPost_ret (v:=.tuple #[.agg #[.int .i64 10,.int .i64 0,.string ⟨#[]⟩,.string ⟨#[]⟩,.slice none 0 0,.slice a2 n2 c2],.int .i64 1]) wO rfl ⟨rfl,?_⟩;exact rC
theorem clean_11(n:Int)(s m:ByteArray)(a1:Option Addr)(n1 c1:Nat)(a2:Option Addr)(n2 c2:Nat)(w:World):
  Calls Tryz.prog 224 #[.agg #[.int .i64 11,.int .i64 n,.string s,.string m,.slice a1 n1 c1,.slice a2 n2 c2]] w fun e w'=>e=.returned (.tuple #[.agg #[.int .i64 11,.int .i64 0,.string ⟨#[]⟩,.string ⟨#[]⟩,.slice none 0 0,.slice a2 n2 c2],.int .i64 3])/\Below w.heap.size w w':=by
 go_enter Tryz.func224,Tryz.ntmps224;go_wp2_with fail;refine bodyPost_ret (v:=.tuple #[.agg #[.int .i64 11,.int .i64 0,.string ⟨#[]⟩,.string ⟨#[]⟩,.slice none 0 0,.slice a2 n2 c2],.int .i64 3]) wO rfl ⟨rfl,?_⟩;exact rC
theorem clean_12(n:Int)(s m:ByteArray)(a1:Option Addr)(n1 c1:Nat)(a2:Option Addr)(n2 c2:Nat)(w:World):
  Calls Tryz.prog 224 #[.agg #[.int .i64 12,.int .i64 n,.string s,.string m,.slice a1 n1 c1,.slice a2 n2 c2]] w fun e w'=>e=.returned (.tuple #[.agg #[.int .i64 12,.int .i64 0,.string s,.string ⟨#[]⟩,.slice none 0 0,.slice a2 n2 c2],.int .i64 2])/\Below w.heap.size w w':=by
 go_enter Tryz.func224,Tryz.ntmps224;go_wp2_with fail;refine bodyPost_ret (v:=.tuple #[.agg #[.int .i64 12,.int .i64 0,.string s,.string ⟨#[]⟩,.slice none 0 0,.slice a2 n2 c2],.int .i64 2]) wO rfl ⟨rfl,?_⟩;exact rC
theorem clean_13(n:Int)(s m:ByteArray)(a1:Option Addr)(n1 c1:Nat)(a2:Option Addr)(n2 c2:Nat)(w:World):
  Calls Tryz.prog 224 #[.agg #[.int .i64 13,.int .i64 n,.string s,.string m,.slice a1 n1 c1,.slice a2 n2 c2]] w fun e w'=>e=.returned (.tuple #[.agg #[.int .i64 13,.int .i64 0,.string ⟨#[]⟩,.string ⟨#[]⟩,.slice a1 n1 c1,.slice a2 n2 c2],.int .i64 (n1:Int)])/\Below w.heap.size w w':=by
 go_enter Tryz.func224,Tryz.ntmps224;go_wp2_with fail;go_region
 all_goals go_wp2_with fail
 all_goals refine bodyPost_ret (v:=.tuple #[.agg #[.int .i64 13,.int .i64 0,.string ⟨#[]⟩,.string ⟨#[]⟩,.slice a1 n1 c1,.slice a2 n2 c2],.int .i64 (n1:Int)]) wO rfl ⟨rfl,?_⟩
 all_goals repeat(first|exact Below.refl _ _|refine Below.drew ?_|refine Below.alloc ?_ xH _|refine Below.setCell ?_ xH _)
theorem clean_14(n:Int)(s m:ByteArray)(a1:Option Addr)(n1 c1:Nat)(a2:Option Addr)(n2 c2:Nat)(w:World):
  Calls Tryz.prog 224 #[.agg #[.int .i64 14,.int .i64 n,.string s,.string m,.slice a1 n1 c1,.slice a2 n2 c2]] w fun e w'=>e=.returned (.tuple #[.agg #[.int .i64 14,.int .i64 0,.string s,.string ⟨#[]⟩,.slice none 0 0,.slice a2 n2 c2],.int .i64 1])/\Below w.heap.size w w':=by
 go_enter Tryz.func224,Tryz.ntmps224;go_wp2_with fail;refine bodyPost_ret (v:=.tuple #[.agg #[.int .i64 14,.int .i64 0,.string s,.string ⟨#[]⟩,.slice none 0 0,.slice a2 n2 c2],.int .i64 1]) wO rfl ⟨rfl,?_⟩;exact rC
theorem clean_15(n:Int)(s m:ByteArray)(a1:Option Addr)(n1 c1:Nat)(a2:Option Addr)(n2 c2:Nat)(w:World):
  Calls Tryz.prog 224 #[.agg #[.int .i64 15,.int .i64 n,.string s,.string m,.slice a1 n1 c1,.slice a2 n2 c2]] w fun e w'=>e=.returned (.tuple #[.agg #[.int .i64 15,.int .i64 0,.string s,.string m,.slice none 0 0,.slice a2 n2 c2],.int .i64 (-1)])/\Below w.heap.size w w':=by
 go_enter Tryz.func224,Tryz.ntmps224;go_wp2_with fail;go_region
 all_goals go_wp2_with fail
 all_goals refine bodyPost_ret (v:=.tuple #[.agg #[.int .i64 15,.int .i64 0,.string s,.string m,.slice none 0 0,.slice a2 n2 c2],.int .i64 (-1)]) wO rfl ⟨rfl,?_⟩
 all_goals repeat(first|exact Below.refl _ _|refine Below.drew ?_|refine Below.alloc ?_ xH _|refine Below.setCell ?_ xH _)
theorem clean_16(n:Int)(s m:ByteArray)(a1:Option Addr)(n1 c1:Nat)(a2:Option Addr)(n2 c2:Nat)(w:World):
  Calls Tryz.prog 224 #[.agg #[.int .i64 16,.int .i64 n,.string s,.string m,.slice a1 n1 c1,.slice a2 n2 c2]] w fun e w'=>e=.returned (.tuple #[.agg #[.int .i64 16,.int .i64 n,.string ⟨#[]⟩,.string ⟨#[]⟩,.slice none 0 0,.slice a2 n2 c2],.int .i64 1])/\Below w.heap.size w w':=by
 go_enter Tryz.func224,Tryz.ntmps224;go_wp2_with fail;refine bodyPost_ret (v:=.tuple #[.agg #[.int .i64 16,.int .i64 n,.string ⟨#[]⟩,.string ⟨#[]⟩,.slice none 0 0,.slice a2 n2 c2],.int .i64 1]) wO rfl ⟨rfl,?_⟩;exact rC
theorem clean_17(n:Int)(s m:ByteArray)(a1:Option Addr)(n1 c1:Nat)(a2:Option Addr)(n2 c2:Nat)(w:World):
  Calls Tryz.prog 224 #[.agg #[.int .i64 17,.int .i64 n,.string s,.string m,.slice a1 n1 c1,.slice a2 n2 c2]] w fun e w'=>e=.returned (.tuple #[.agg #[.int .i64 17,.int .i64 0,.string s,.string ⟨#[]⟩,.slice none 0 0,.slice a2 n2 c2],.int .i64 0])/\Below w.heap.size w w':=by
 go_enter Tryz.func224,Tryz.ntmps224;go_wp2_with fail;refine bodyPost_ret (v:=.tuple #[.agg #[.int .i64 17,.int .i64 0,.string s,.string ⟨#[]⟩,.slice none 0 0,.slice a2 n2 c2],.int .i64 0]) wO rfl ⟨rfl,?_⟩;exact rC
theorem clean_18(n:Int)(s m:ByteArray)(a1:Option Addr)(n1 c1:Nat)(a2:Option Addr)(n2 c2:Nat)(w:World):
  Calls Tryz.prog 224 #[.agg #[.int .i64 18,.int .i64 n,.string s,.string m,.slice a1 n1 c1,.slice a2 n2 c2]] w fun e w'=>e=.returned (.tuple #[.agg #[.int .i64 18,.int .i64 0,.string s,.string ⟨#[]⟩,.slice none 0 0,.slice a2 n2 c2],.int .i64 1])/\Below w.heap.size w w':=by
 go_enter Tryz.func224,Tryz.ntmps224;go_wp2_with fail;refine bodyPost_ret (v:=.tuple #[.agg #[.int .i64 18,.int .i64 0,.string s,.string ⟨#[]⟩,.slice none 0 0,.slice a2 n2 c2],.int .i64 1]) wO rfl ⟨rfl,?_⟩;exact rC
theorem leaf_any(op n:Int)(s m:ByteArray)(names:List ByteArray)(args:List Xp)(N:Nat->Prop)(vn va:Value)(w:World)(h0:0<=op)(h1:op<19)(hg:bV w)(he:cE N w (.mk op n s m names args) [.int .i64 op,.int .i64 n,.string s,.string m,vn,va]):
  bQ (.mk op n s m names args) op n s m vn va w:=by
 rw[bF] at he;obtain⟨v1,v2,e,hs,hm,hn,a2,c2,rfl,-⟩:=he;cases e;have hn':=hn;obtain⟨a1,c1,rfl,-⟩:=hn';have hc:op=0\/op=1\/op=2\/op=3\/op=4\/op=5\/op=6\/op=7\/op=8\/op=9\/op=10\/op=11\/op=12\/op=13\/op=14\/op=15\/op=16\/op=17\/op=18:=vT;rcases hc with rfl|rfl|rfl|rfl|rfl|rfl|rfl|rfl|rfl|rfl|rfl|rfl|rfl|rfl|rfl|rfl|rfl|rfl|rfl
 ·exact leaf_0 n s m names args a1 names.length c1 a2 c2 w hg hs hm
 ·exact leaf_1 n s m names args a1 names.length c1 a2 c2 w hg hs hm
 ·exact leaf_2 n s m names args a1 names.length c1 a2 c2 w hg hs hm
 ·exact leaf_3 n s m names args a1 names.length c1 a2 c2 w hg hs hm
 ·exact leaf_4 n s m names args a1 names.length c1 a2 c2 w hg hs hm
 ·exact leaf_5 n s m names args a1 names.length c1 a2 c2 w hg hs hm
 ·exact leaf_6 n s m names args a1 names.length c1 a2 c2 w hg hs hm
 ·exact leaf_7 n s m names args a1 names.length c1 a2 c2 w hg hs hm
 ·exact leaf_8 n s m names args a1 names.length c1 a2 c2 w hg hs hm
 ·exact leaf_9 n s m names args a1 names.length c1 a2 c2 w hg hs hm
 ·exact leaf_10 n s m names args a1 names.length c1 a2 c2 w hg hs hm
 ·exact leaf_11 n s m names args a1 names.length c1 a2 c2 w hg hs hm
 ·exact leaf_12 n s m names args a1 names.length c1 a2 c2 w hg hs hm
 ·exact leaf_13 n s m names args N _ a2 args.length c2 w hg hn
 ·exact leaf_14 n s m names args a1 names.length c1 a2 c2 w hg hs hm
 ·exact leaf_15 n s m names args a1 names.length c1 a2 c2 w hg hs hm
 ·exact leaf_16 n s m names args a1 names.length c1 a2 c2 w hg hs hm
 ·exact leaf_17 n s m names args a1 names.length c1 a2 c2 w hg hs hm
 ·exact leaf_18 n s m names args a1 names.length c1 a2 c2 w hg hs hm
def cleanN(op n:Int):Int:=if op=0\/op=1\/op=16 then n else 0
def cleanS(op:Int)(s:ByteArray):ByteArray:=if op=2\/op=17\/op=18\/op=14\/op=12\/op=15 then s else noB
def cleanM(op:Int)(m:ByteArray):ByteArray:=if op=15 then m else noB
def cleanC(op:Int)(k:Nat):Int:=if op=0\/op=1\/op=2\/op=17 then 0 else if op=18\/op=14\/op=16\/op=10 then 1 else if op=11 then 3 else if op=13 then k else if op=15 then -1 else 2
def CleanSays(op n:Int)(s m:ByteArray)(a1:Option Addr)(n1 c1:Nat)(va:Value)(w:World):Prop:=Calls Tryz.prog 224 #[.agg #[.int .i64 op,.int .i64 n,.string s,.string m,.slice a1 n1 c1,va]] w fun e w'=>∃a3 n3 c3,e=.returned (.tuple #[.agg #[.int .i64 op,.int .i64 (cleanN op n),.string (cleanS op s),.string (cleanM op m),.slice a3 n3 c3,va],.int .i64 (cleanC op n1)])/\n3=(if op=13 then n1 else 0)/\Below w.heap.size w w'
theorem clean_any(op n:Int)(s m:ByteArray)(a1:Option Addr)(n1 c1:Nat)(a2:Option Addr)(n2 c2:Nat)(w:World)(h0:0<=op)(h1:op<19):CleanSays op n s m a1 n1 c1 (.slice a2 n2 c2) w:=by
 have hc:op=0\/op=1\/op=2\/op=3\/op=4\/op=5\/op=6\/op=7\/op=8\/op=9\/op=10\/op=11\/op=12\/op=13\/op=14\/op=15\/op=16\/op=17\/op=18:=vT;rcases hc with rfl|rfl|rfl|rfl|rfl|rfl|rfl|rfl|rfl|rfl|rfl|rfl|rfl|rfl|rfl|rfl|rfl|rfl|rfl
 ·exact(clean_0 n s m a1 n1 c1 a2 n2 c2 w).mono fun e w' h=>⟨none,0,0,h.1,rfl,h.2⟩
 ·exact(clean_1 n s m a1 n1 c1 a2 n2 c2 w).mono fun e w' h=>⟨none,0,0,h.1,rfl,h.2⟩
 ·exact(clean_2 n s m a1 n1 c1 a2 n2 c2 w).mono fun e w' h=>⟨none,0,0,h.1,rfl,h.2⟩
 ·exact(clean_3 n s m a1 n1 c1 a2 n2 c2 w).mono fun e w' h=>⟨none,0,0,h.1,rfl,h.2⟩
 ·exact(clean_4 n s m a1 n1 c1 a2 n2 c2 w).mono fun e w' h=>⟨none,0,0,h.1,rfl,h.2⟩
 ·exact(clean_5 n s m a1 n1 c1 a2 n2 c2 w).mono fun e w' h=>⟨none,0,0,h.1,rfl,h.2⟩
 ·exact(clean_6 n s m a1 n1 c1 a2 n2 c2 w).mono fun e w' h=>⟨none,0,0,h.1,rfl,h.2⟩
 ·exact(clean_7 n s m a1 n1 c1 a2 n2 c2 w).mono fun e w' h=>⟨none,0,0,h.1,rfl,h.2⟩
 ·exact(clean_8 n s m a1 n1 c1 a2 n2 c2 w).mono fun e w' h=>⟨none,0,0,h.1,rfl,h.2⟩
 ·exact(clean_9 n s m a1 n1 c1 a2 n2 c2 w).mono fun e w' h=>⟨none,0,0,h.1,rfl,h.2⟩
 ·exact(clean_10 n s m a1 n1 c1 a2 n2 c2 w).mono fun e w' h=>⟨none,0,0,h.1,rfl,h.2⟩
 ·exact(clean_11 n s m a1 n1 c1 a2 n2 c2 w).mono fun e w' h=>⟨none,0,0,h.1,rfl,h.2⟩
 ·exact(clean_12 n s m a1 n1 c1 a2 n2 c2 w).mono fun e w' h=>⟨none,0,0,h.1,rfl,h.2⟩
 ·exact(clean_13 n s m a1 n1 c1 a2 n2 c2 w).mono fun e w' h=>⟨a1,n1,c1,h.1,rfl,h.2⟩
 ·exact(clean_14 n s m a1 n1 c1 a2 n2 c2 w).mono fun e w' h=>⟨none,0,0,h.1,rfl,h.2⟩
 ·exact(clean_15 n s m a1 n1 c1 a2 n2 c2 w).mono fun e w' h=>⟨none,0,0,h.1,rfl,h.2⟩
 ·exact(clean_16 n s m a1 n1 c1 a2 n2 c2 w).mono fun e w' h=>⟨none,0,0,h.1,rfl,h.2⟩
 ·exact(clean_17 n s m a1 n1 c1 a2 n2 c2 w).mono fun e w' h=>⟨none,0,0,h.1,rfl,h.2⟩
 ·exact(clean_18 n s m a1 n1 c1 a2 n2 c2 w).mono fun e w' h=>⟨none,0,0,h.1,rfl,h.2⟩
theorem cleanX_eq(op n:Int)(s m:ByteArray)(names:List ByteArray)(args:List Xp)(h0:0<=op)(h1:op<19):cleanX (.mk op n s m names args)=((cleanN op n,cleanS op s,cleanM op m,if op=13 then names else[]),cleanC op names.length):=by
 have hc:op=0\/op=1\/op=2\/op=3\/op=4\/op=5\/op=6\/op=7\/op=8\/op=9\/op=10\/op=11\/op=12\/op=13\/op=14\/op=15\/op=16\/op=17\/op=18:=vT;rcases hc with rfl|rfl|rfl|rfl|rfl|rfl|rfl|rfl|rfl|rfl|rfl|rfl|rfl|rfl|rfl|rfl|rfl|rfl|rfl<;>rfl
end Go.Proofs.YtacgopankhpnbaaGreatDoor
