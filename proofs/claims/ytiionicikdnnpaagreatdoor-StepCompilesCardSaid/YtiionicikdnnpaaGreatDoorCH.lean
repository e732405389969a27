/- Texts of this seat, joined. -/
import Derived.Test.YtiionicikdnnpaaGreatDoorCB
import Derived.Test.YtiionicikdnnpaaGreatDoorCD
set_option maxHeartbeats 800000
set_option linter.unusedVariables false
set_option linter.unusedSimpArgs false
namespace Go.Proofs.YtiionicikdnnpaaGreatDoor
open Go.RowKit
theorem WX{p:Prop}(h:p:=by
 cases a<;>go_wp2_with(first|(go_at_call 141;refine(h1.out _).mono ?_;rintro e w' ⟨rfl,rfl⟩)|(go_at_call 143;refine(h2.out _).mono ?_;rintro e w' ⟨rfl,rfl⟩));all_goals go_ret
 all_goals exact⟨aF hw.out.symm,rfl⟩):p:=h
theorem blank_any(c:UInt8)(w:World):Calls Tryz.prog 99 #[.int .u8 c.toNat] w fun e w'=>e=.returned (.bool (dL c))/\w'=w:=by
 go_enter Tryz.func99,Tryz.ntmps99
 go_wp2
 all_goals go_ret
 all_goals refine⟨aF ?_,rfl⟩
 all_goals unfold dL
 all_goals rw[Bool.eq_iff_iff]
 all_goals simp
 all_goals omega
theorem letter_any(c:UInt8)(w:World):Calls Tryz.prog 141 #[.int .u8 c.toNat] w fun e w'=>e=.returned (.bool (gF c))/\w'=w:=by
 go_enter Tryz.func141,Tryz.ntmps141
 go_wp2
 all_goals go_ret
 all_goals refine⟨aF ?_,rfl⟩
 all_goals unfold gF
 all_goals rw[Bool.eq_iff_iff]
 all_goals simp
 all_goals omega
theorem rH(c:UInt8)(w:World):Calls Tryz.prog 143 #[.int .u8 c.toNat] w fun e w'=>e=.returned (.bool (cL c))/\w'=w:=by
 go_enter Tryz.func143,Tryz.ntmps143
 go_wp2
 all_goals go_ret
 all_goals refine⟨aF ?_,rfl⟩
 all_goals unfold cL
 all_goals rw[Bool.eq_iff_iff]
 all_goals simp
 all_goals omega
theorem word1_any(c:UInt8)(w:World):Calls Tryz.prog 142 #[.int .u8 c.toNat] w fun e w'=>e=.returned (.bool (kH c))/\w'=w:=by
 have h1:=zh (letter_any c);have h2:=zh (rH c);have hw:=zh (show kH c=(gF c||cL c) from rfl);generalize gF c=a at h1 hw;generalize cL c=b at h2 hw;go_enter Tryz.func142,Tryz.ntmps142;exact WX
theorem lexnext1_any(c:UInt8)(w:World):Calls Tryz.prog 166 #[.int .u8 c.toNat] w fun e w'=>e=.returned (.bool (kH c))/\w'=w:=by
 have h1:=zh (letter_any c);have h2:=zh (rH c);have hw:=zh (show kH c=(gF c||cL c) from rfl);generalize gF c=a at h1 hw;generalize cL c=b at h2 hw;go_enter Tryz.func166,Tryz.ntmps166;exact WX
theorem spanN_hit{p:UInt8->Bool}:∀(l:List UInt8)(k:Nat),(∀x,x∈l.take k->p x=true)->k<=l.length->(∀x,l[k]? =some x->p x=false)->dW p l=k
 |[],k,_,h1,_=>by simp at h1;subst h1;rfl
 |x::l,0,_,_,h2=>by
  have:=h2 x rfl;simp[dW,this]
 |x::l,k+1,h0,h1,h2=>by
  have hx:=h0 x YR;have:=spanN_hit l k (fun y hy=>h0 y (by simp[hy])) (by simpa using h1) (fun y hy=>h2 y aBt);unfold dW at this ⊢;simp[hx,this]
theorem spanN_le(p:UInt8->Bool)(l:List UInt8):dW p l<=l.length:=(List.takeWhile_sublist _).length_le
theorem span_any(g:FuncId)(p:UInt8->Bool)(s:bA)(w:World)(hs:s.size<=140737488355328)
  (eg:∀args w,(callFunc g args).run Tryz.prog w=.ok (.enter g args) w)
  (hp:∀c w,Calls Tryz.prog g #[.int .u8 (UInt8.toNat c)] w fun e w'=>e=.returned (.bool (p c))/\w'=w):
  Calls Tryz.prog 98 #[.string s,.func (.func g) #[] #[]] w fun e w'=>e=.returned (.int .i64 (dW p s.data.toList))/\w=w':=by
 have HP:=zh hp;clear hp;go_enter Tryz.func98,Tryz.ntmps98;go_wp2_with fail;go_loop [5] (fun i=>∃k:Nat,k<=s.size/\i=.int .i64 k/\Hid (∀x,x∈s.data.toList.take k->p x=true)) (fun i=>s.size-(intOf i).toNat)
 case atStart=>exact⟨0,Nat.zero_le _,rfl,zh YR⟩
 case round=>
  obtain⟨k,hk,rfl,HA⟩:=hrel;by_cases rU:k<s.size
  ·have HX:Hid (s.data.toList[k]? =some s[k]):=zh (by rw[List.getElem?_eq_getElem (by simpa using rU)];rfl);have tA:=zh (HP.out s[k])
   cases hq:p s[k] with
   |true=>
    rw[hq] at tA;have HQ:=zh hq;clear hq;go_wp2_with(go_at_fn g;refine(tA.out _).mono ?_;rintro e w' ⟨rfl,rfl⟩)
    go_round
    case rel=>
     refine⟨k+1,YM,YZ,zh fun x hx=>?_⟩;rw[take_snoc s k rU,List.mem_append] at hx;rcases hx with hx|hx
     ·exact HA.out x hx
     simp at hx;rw[hx];exact HQ.out
    case measure=>simp[intOf];omega
   |false=>
    rw[hq] at tA;have HQ:=zh hq;clear hq;go_wp2_with(go_at_fn g;refine(tA.out _).mono ?_;rintro e w' ⟨rfl,rfl⟩);go_ret;exact⟨iJ (by rw[spanN_hit _ k HA.out (by simpa using hk) (fun x hx=>by rw[HX.out] at hx;cases hx;exact HQ.out)]),rfl⟩
  go_wp2_with fail;go_ret;exact⟨iJ (by rw[spanN_hit _ k HA.out (by simpa using hk) (fun x hx=>by rw[List.getElem?_eq_none Y9] at hx;cases hx)]),rfl⟩
theorem enters_blank:∀args w,(callFunc 99 args).run Tryz.prog w=.ok (.enter 99 args) w:=enters_of Tryz.func99 YN rfl
theorem enters_digit:∀args w,(callFunc 143 args).run Tryz.prog w=.ok (.enter 143 args) w:=enters_of Tryz.func143 YN rfl
theorem enters_word1:∀args w,(callFunc 142 args).run Tryz.prog w=.ok (.enter 142 args) w:=enters_of Tryz.func142 YN rfl
theorem enters_lexnext1:∀args w,(callFunc 166 args).run Tryz.prog w=.ok (.enter 166 args) w:=enters_of Tryz.func166 YN rfl
theorem VS{p:Prop}(h:p:=by
 clear sY;go_enter Tryz.func167,Tryz.ntmps167;go_wp2_with(go_at_call 98;refine xP.out.mono ?_;rintro e w' ⟨rfl,rfl⟩);go_loop [4,31] (fun n i=>∃k:Nat,k<=s.size/\i=.int .i64 k/\n=.int .i64 (jM (s.data.toList.take k))) (fun _ i=>s.size-(intOf i).toNat)
 case atStart=>exact⟨0,Nat.zero_le _,rfl,rfl⟩
 case round=>
  obtain⟨k,hk,rfl,rfl⟩:=hrel;by_cases rU:k<s.size
  ·have HN:Hid (jM (s.data.toList.take (k+1))=10*jM (s.data.toList.take k)+(s[k].toNat-48)):=zh (by rw[take_snoc s k rU,decOf_snoc])
   have OY:48<=s[k].toNat/\s[k].toNat<=57:=by
    have:=List.all_eq_true.1 H1.out s[k] (by show s.data.toList[k]'(by simpa using rU)∈_;exact List.getElem_mem _);unfold cL at this;simpa using this
   have DM:=HD.out k hk;have HW3:=HN.out;have hcv:(s[k].toNat:Int)-48=((s[k].toNat-48:Nat):Int):=YM;generalize jM (s.data.toList.take k)=n at HN DM HW3 ⊢;go_wp2_with fail
   go_round
   (case rel=>exact⟨k+1,YM,YZ,by rw[HN.out];go_num⟩);case measure=>simp[intOf];omega
  have NJ:k=s.size:=YM;subst NJ;have sU:s.data.toList.take s.size=s.data.toList:=List.take_of_length_le YR;rw[sU];clear HD sU;generalize jM s.data.toList=n at HB BX ⊢;have hn:=HB.out;by_cases hm:(1099511627776:Int)<(n:Int)
  ·go_wp2_with fail;go_ret2;exact⟨by rw[BX.out,if_neg YM];rfl,rfl⟩
  go_wp2_with fail;go_ret2
  exact⟨by rw[BX.out,if_pos YM];rfl,rfl⟩):p:=h
theorem W6{p:Prop}(h:p:=by
 go_enter Tryz.func167,Tryz.ntmps167;go_wp2_with(go_at_call 98;refine xP.out.mono ?_;rintro e w' ⟨rfl,rfl⟩);go_ret2
 exact⟨by rw[HW.out,H1.out,H2.out,decide_eq_false (show ¬s.size<=13 by omega)];rfl,rfl⟩):p:=h
theorem toList_nil{s:bA}(h:s.size=0):s.toList=[]:=by rw[Lib.toList_data];exact List.eq_nil_of_length_eq_zero ZS
theorem jD(s:bA):s.size=s.data.toList.length:=YR
theorem toList_ne{s:bA}(h:0<s.size):¬s.toList=[]:=fun e=>by rw[Lib.toList_data] at e;rw[jD,e] at h;exact absurd h YR
theorem oR{s:bA}(h:0<s.size):∃r,s.data.toList=s[0]::r:=by
 cases hh:s.data.toList with
 |nil=>rw[jD,hh] at h;exact absurd h YR
 |cons c r=>
  refine⟨r,?_⟩;have:s[0]=s.data.toList[0]'(by rw[hh];simp):=rfl;rw[this];simp[hh]
theorem spanN_all{p:UInt8->Bool}:∀(l:List UInt8),decide (dW p l=l.length)=l.all p
 |[]=>rfl
 |x::l=>by
  have:=spanN_all (p:=p) l;unfold dW at this ⊢
  cases hx:p x with
  |false=>simp[hx]
  |true=>simp[hx];simpa using this
theorem nat_beq(a b:Nat):((a:Int)==(b:Int))=decide (a=b):=ZJ
theorem word_any(s:bA)(w:World)(hs:s.size<=140737488355328):Calls Tryz.prog 59 #[.string s] w fun e w'=>e=.returned (.bool (eZ s))/\w=w':=by
 have xP:=zh (span_any 142 kH s w hs enters_word1 word1_any);by_cases h0:s.size=0
 ·have h1:=toList_nil h0;have HW:Hid (eZ s=false):=zh (by unfold eZ;rw[<-Lib.toList_data,h1]);go_enter Tryz.func59,Tryz.ntmps59;go_wp2_with fail;go_ret;exact⟨aF HW.out.symm,rfl⟩
 have vB:0<s.size:=YM;have h1:=toList_ne vB;have hE:s.toList.isEmpty=false:=by cases hh:s.toList with|nil=>exact absurd hh h1|cons=>rfl
 obtain⟨r,hr⟩:=oR vB
 have HW:Hid (eZ s=(gF s[0]&&decide (s.size<=20)&&decide (dW kH s.data.toList=s.size))):=zh (by
  rw[show decide (dW kH s.data.toList=s.size)=s.data.toList.all kH by rw[jD s,spanN_all]];unfold eZ;rw[hr])
 have HL:=zh (letter_any s[0] w);clear hr;generalize gF s[0]=a at HW HL
 cases a with
 |false=>
  go_enter Tryz.func59,Tryz.ntmps59;go_wp2_with(go_at_call 141;refine HL.out.mono ?_;rintro e w' ⟨rfl,rfl⟩);go_ret;exact⟨aF (by rw[HW.out];rfl),rfl⟩
 |true=>
  by_cases h20:(20:Int)<(s.size:Int)
  ·go_enter Tryz.func59,Tryz.ntmps59;go_wp2_with(go_at_call 141;refine HL.out.mono ?_;rintro e w' ⟨rfl,rfl⟩);go_ret;exact⟨aF (by rw[HW.out,decide_eq_false YM];rfl),rfl⟩
  go_enter Tryz.func59,Tryz.ntmps59;go_wp2_with(first|(go_at_call 141;refine HL.out.mono ?_;rintro e w' ⟨rfl,rfl⟩)|(go_at_call 98;refine xP.out.mono ?_;rintro e w' ⟨rfl,rfl⟩));go_ret;exact⟨aF (by rw[HW.out,decide_eq_true (show s.size<=20 by omega),nat_beq];rfl),rfl⟩
theorem beq_zero(s:bA):(s.toList==[48])=decide (s=⟨#[48]⟩):=by
 have h:(⟨#[48]⟩:bA).toList=[48]:=by rw[Lib.toList_data]
 rw[Bool.eq_iff_iff];simp only[beq_iff_eq,decide_eq_true_eq];constructor
 ·intro e;rw[Lib.toList_data] at e;cases s with|mk d=>cases d;simp at e;subst e;rfl
 intro e;rw[e,h]
theorem decOf_snoc(l:List UInt8)(c:UInt8):jM (l++[c])=10*jM l+(c.toNat-48):=by unfold jM;rw[List.foldl_append];rfl
theorem decOf_go:∀(l:List UInt8)(n k:Nat),l.all cL=true->n<10 ^ k->l.foldl (fun n c=>10*n+(c.toNat-48)) n<10 ^ (k+l.length)
 |[],n,k,_,h=>ZS
 |c::l,n,k,ha,h=>by
  simp only[List.all_cons,Bool.and_eq_true] at ha;have hc:c.toNat<=57:=by have:=ha.1;unfold cL at this;simp at this;omega
  have:=decOf_go l (10*n+(c.toNat-48)) (k+1) ha.2 (by rw[Nat.pow_succ];omega);simp only[List.foldl_cons,List.length_cons];rw[show k+(l.length+1)=k+1+l.length by omega];exact this
theorem decOf_lt(l:List UInt8)(h:l.all cL=true):jM l<10 ^ l.length:=by
 have:=decOf_go l 0 0 h YO;simpa[jM] using this
theorem all_take{p:UInt8->Bool}{l:List UInt8}(h:l.all p=true)(k:Nat):(l.take k).all p=true:=by
 rw[List.all_eq_true] at h ⊢;exact fun x hx=>h x (List.mem_of_mem_take hx)
abbrev tokV(k:Int)(t:bA)(n pos:Int):Value:=oBx24 k t n pos
def numV(r:Option Nat):Value:=match r with|some n=>.tuple #[.int .i64 n,.bool true]|none=>.tuple #[.int .i64 0,.bool false]
theorem number_any(s:bA)(w:World)(hs:s.size<=140737488355328):Calls Tryz.prog 167 #[.string s] w fun e w'=>e=.returned (numV (cZ s))/\w=w':=by
 have xP:=zh (span_any 143 cL s w hs enters_digit rH);by_cases h0:s.size=0
 ·have h1:=toList_nil h0;have HW:Hid (cZ s=none):=zh (by unfold cZ;rw[<-Lib.toList_data,h1]);go_enter Tryz.func167,Tryz.ntmps167;go_wp2_with fail;go_ret2;exact⟨by rw[HW.out];rfl,rfl⟩
 have vB:0<s.size:=YM;have h1:=toList_ne vB;obtain⟨r,hr⟩:=oR vB;have hz:=beq_zero s
 have HA:Hid (decide (dW cL s.data.toList=s.size)=s.data.toList.all cL):=zh (by
  rw[jD s,spanN_all])
 have HW:Hid (cZ s=if s.data.toList.all cL&& !(decide (s[0].toNat=48)&&decide (s.size≠1))&&decide (s.size<=13)&&decide (jM s.data.toList<=1099511627776) then some (jM s.data.toList) else none):=zh (by
  unfold cZ;rw[hr])
 clear hr;have hE:s.toList.isEmpty=false:=by cases hh:s.toList with|nil=>exact absurd hh h1|cons=>rfl
 have uZ:∀v,(s.data.toList.all cL&& !(decide (s[0].toNat=48)&&decide (s.size≠1))&&decide (s.size<=13))=false->v=numV none->v=numV (cZ s):=by
  intro v h e;rw[HW.out,h,e];rfl
 by_cases g1:dW cL s.data.toList=s.size
 ·have H1:Hid (s.data.toList.all cL=true):=zh (by rw[<-HA.out,decide_eq_true g1]);rw[g1] at xP;by_cases g2:s[0].toNat=48/\s.size≠1
  ·have hc:(s[0].toNat:Int)=48:=YM;(have sY:¬s.toList=[48]:=fun e=>by rw[Lib.toList_data] at e;have:=jD s;rw[e] at this;exact g2.2 (by simpa using this));have g:=zh g2;clear g2 hz;go_enter Tryz.func167,Tryz.ntmps167;go_wp2_with(go_at_call 98;refine xP.out.mono ?_;rintro e w' ⟨rfl,rfl⟩);go_ret2;exact⟨by rw[HW.out,H1.out,decide_eq_true g.out.1,decide_eq_true g.out.2];rfl,rfl⟩
  have sY:(s[0].toNat:Int)=48->s.toList=[48]:=by
   intro e;have e1:s.size=1:=YM;obtain⟨r,hr⟩:=oR vB;(have e2:r=[]:=by have:=jD s;rw[hr] at this;simp at this;exact List.eq_nil_of_length_eq_zero YM);rw[Lib.toList_data,hr,e2];congr 1;exact UInt8.toNat_inj.1 (by rw[show(48:UInt8).toNat=48 from rfl];omega)
  have H2:Hid ((!(decide (s[0].toNat=48)&&decide (s.size≠1)))=true):=zh (by
   rw[Bool.not_eq_true',Bool.and_eq_false_iff,decide_eq_false_iff_not,decide_eq_false_iff_not];omega)
  clear hz g2;by_cases g3:(13:Int)<(s.size:Int)
  ·by_cases hc:(s[0].toNat:Int)=48
   ·have:=sY hc;exact W6
   clear sY;exact W6
  have tK:(s.size:Int)<=13:=YM;have HB:Hid (jM s.data.toList<10 ^ 13):=zh (Nat.lt_of_lt_of_le (decOf_lt _ H1.out) (Nat.pow_le_pow_right YO (by rw[<-jD];omega)))
  have HD:∀k,k<=s.size->jM (s.data.toList.take k)<10 ^ 13:=fun k hk=>
   Nat.lt_of_lt_of_le (decOf_lt _ (all_take H1.out k)) (Nat.pow_le_pow_right YO (by rw[List.length_take];omega))
  have HD:=zh HD
  have BX:Hid (cZ s=if jM s.data.toList<=1099511627776 then some (jM s.data.toList) else none):=zh (by
   rw[HW.out,H1.out,H2.out,decide_eq_true (show s.size<=13 by omega)];simp)
  clear HW uZ;by_cases hc:(s[0].toNat:Int)=48
  ·have DJ:=sY hc;(have FC:(s.toList==[48])=true:=by rw[DJ];rfl);exact VS
  have tE:((s[0].toNat:Int)==48)=false:=by rw[beq_eq_false_iff_ne];exact hc
  exact VS
 have H1:Hid (s.data.toList.all cL=false):=zh (by rw[<-HA.out,decide_eq_false g1]);have g1':((dW cL s.data.toList:Int)==(s.size:Int))=false:=YV;go_enter Tryz.func167,Tryz.ntmps167;go_wp2_with(go_at_call 98;refine xP.out.mono ?_;rintro e w' ⟨rfl,rfl⟩);go_ret2;exact⟨by rw[HW.out,H1.out];rfl,rfl⟩
theorem WC{p:Prop}(h:p:=by
 cases hq:p x with
 |true=>
  rw[hq] at tA;have HQ:=zh hq;clear hq;go_wp2_with(go_at_fn g;refine(tA.out).mono ?_;rintro e w' ⟨rfl,uR⟩);go_ret;exact⟨iJ (idxOf_some (findIdx_hit HX.out HQ.out HN.out)).symm,aC vK uR⟩
 |false=>
  rw[hq] at tA;have HQ:=zh hq;clear hq;go_wp2_with(go_at_fn g;refine(tA.out).mono ?_;rintro e w' ⟨rfl,uR⟩);go_roundw;case rel=>exact⟨k+1,YM,YZ,take_no HX.out HQ.out HN.out,aC vK uR⟩
  case measure=>simp[intOf];omega):p:=h
theorem WO{p:Prop}(h:p:=by
 go_wp2_with fail;go_loop [8] (fun i=>i=.int .i64 0) (fun i=>0)
 case atStart=>rfl
 case round=>
  subst hrel;go_wp2_with fail;go_ret
  exact⟨rfl,Below.refl _ _⟩):p:=h
theorem isName_bad(s:bA)(k:Nat)(h:k<s.size)(hb:(s[k].toNat:Int)<33\/126<(s[k].toNat:Int)):isName s=false:=by
 have hf:s.data.toList.all qY=false:=by
  rw[List.all_eq_false];refine⟨s[k],?_,?_⟩
  ·have:s[k]=s.data.toList[k]' ZS:=rfl;rw[this];exact List.getElem_mem _
  simp[qY];omega
 simp[isName,hf]
theorem isName_empty(s:bA)(h:s.toList=[]):isName s=false:=by simp[isName,h]
theorem isName_full(s:bA)(h:s.data.toList.all qY=true)(rO:¬s.toList=[]):isName s=decide (s.size<=20):=by
 have h2:s.toList.isEmpty=false:=by cases hh:s.toList with
  |nil=>exact absurd hh rO
  |cons=>rfl
 rw[isName,h,h2];simp
theorem notEmpty_and{s:bA}{a b:Bool}(h:¬s.toList=[])(e:a=b):(!s.toList.isEmpty&&a)=b:=by
 cases hh:s.toList with
 |nil=>exact absurd hh h
 |cons=>simpa using e
theorem isName_any(s:bA)(w:World)(hs:s.size<=140737488355328):
  Calls Tryz.prog 172 #[.string s] w fun e w'=>e=.returned (.bool (isName s))/\w=w':=by
 go_enter Tryz.func172,Tryz.ntmps172
 go_wp2
 go_loop [6] (fun i=>∃k:Nat,k<=s.size/\i=.int .i64 k/\(s.data.toList.take k).all qY=true) (fun i=>s.size-(intOf i).toNat)
 case atStart=>exact⟨0,Nat.zero_le _,rfl,rfl⟩
 case round=>
  obtain⟨k,hk,rfl,sU⟩:=hrel;have HA:=zh sU;clear sU
  go_wp2
  ·go_ret;exact⟨aF (isName_bad s k ‹_› ‹_›).symm,rfl⟩
  ·go_round
   (case rel=>exact⟨k+1,YM,YZ,by rw[take_snoc s k ‹_›,List.all_append,HA.out];simp[qY];omega⟩);case measure=>simp[intOf];omega
  ·go_ret;exact⟨aF (isName_bad s k ‹_› (Or.inl ‹_›)).symm,rfl⟩
  ·go_ret;exact⟨aF (isName_empty s ‹_›).symm,rfl⟩
  have NJ:k=s.size:=YM;subst NJ;go_ret;have h1:=HA.out;rw[List.take_of_length_le YR] at h1;exact⟨aF (by rw[isName_full s h1 ‹_›];exact notEmpty_and ‹_› Y9),rfl⟩
theorem right1_any(s:bA)(w:World)(hs:s.size<=140737488355328):
  Calls Tryz.prog 174 #[.string s] w fun e w'=>e=.returned (.bool (!isName s))/\w=w':=by
 go_enter Tryz.func174,Tryz.ntmps174;go_wp2_with(go_at_call 172;refine(isName_any _ _ hs).mono ?_;rintro e w' ⟨rfl,rfl⟩);go_ret;exact⟨rfl,rfl⟩
def Tests{α:Type}(P:Program)(g:FuncId)(cap:Array Value)(enc:α->Value)(p:α->Bool)(l:List α)(w:World):Prop:=
 ∀x,x∈l->∀W,Below w.heap.size w W->Calls P g (#[enc x]++cap) W fun e W'=>e=.returned (.bool (p x))/\Below W.heap.size W W'
theorem findIdx_hit{α:Type}{p:α->Bool}{l:List α}{k:Nat}{x:α}(hx:l[k]? =some x)(hp:p x=true)(wN:∀y,y∈l.take k->p y=false):l.findIdx? p=some k:=by
 rw[List.findIdx?_eq_some_iff_getElem];obtain⟨h,rfl⟩:=Yb.1 hx;refine⟨h,hp,fun j hj=>?_⟩;have:=wN l[j] (by rw[List.mem_take_iff_getElem];exact⟨j,YM,rfl⟩);simp[this]
theorem take_no{α:Type}{p:α->Bool}{l:List α}{k:Nat}{x:α}(hx:l[k]? =some x)(hp:p x=false)(wN:∀y,y∈l.take k->p y=false):∀y,y∈l.take (k+1)->p y=false:=by
 intro y hy;rw[List.take_add_one,List.mem_append] at hy;rcases hy with hy|hy
 ·exact wN y hy
 rw[hx] at hy;simp at hy;rw[hy];exact hp
theorem findIdx_miss{α:Type}{p:α->Bool}{l:List α}{k:Nat}(hk:l.length<=k)(wN:∀y,y∈l.take k->p y=false):l.findIdx? p=none:=by
 rw[List.findIdx?_eq_none_iff];intro x hx;rw[List.take_of_length_le hk] at wN;simp[wN x hx]
def nV{α:Type}(p:α->Bool)(l:List α):Int:=match l.findIdx? p with|some i=>(i:Int)|none=> -1
theorem idxOf_some{α:Type}{p:α->Bool}{l:List α}{k:Nat}(h:l.findIdx? p=some k):nV p l=k:=by unfold nV;rw[h]
theorem idxOf_none{α:Type}{p:α->Bool}{l:List α}(h:l.findIdx? p=none):nV p l= -1:=by unfold nV;rw[h]
theorem idxOf_any{α:Type}(p:α->Bool)(l:List α):decide (0<=nV p l)=l.any p:=by
 unfold nV
 cases h:l.findIdx? p with
 |none=>
  rw[List.findIdx?_eq_none_iff] at h;have:l.any p=false:=by rw[List.any_eq_false];intro x hx;simp[h x hx]
  rw[this];rfl
 |some i=>
  obtain⟨hi,hp,-⟩:=List.findIdx?_eq_some_iff_getElem.1 h;have:l.any p=true:=List.any_eq_true.2 ⟨_,List.getElem_mem hi,hp⟩;rw[this];simp
theorem indexFunc_str(g:FuncId)(cap:Array Value)(p:bA->Bool)(l:List bA)(v:Value)(w:World)(hv:Strs w v l)
  (eg:∀args w,(callFunc g args).run Tryz.prog w=.ok (.enter g args) w) (hp:Tests Tryz.prog g cap Value.string p l w):
  Calls Tryz.prog 208 #[v,.func (.func g) #[] cap] w fun e w'=>e=.returned (.int .i64 (nV p l))/\Below w.heap.size w w':=by
 have HP:=zh hp;clear hp;rcases hv.cases with⟨rfl,a,c,rfl⟩|⟨b,o,c,rfl,h0,h1,h2,hb,hc⟩
 ·clear hv;go_enter Tryz.func208,Tryz.ntmps208;exact WO
 clear hv;go_enter Tryz.func208,Tryz.ntmps208;go_wp2_with fail;go_loopw [8] (fun i wr=>∃k:Nat,k<=l.length/\i=.int .i64 k/\(∀x,x∈l.take k->p x=false)/\Below w.heap.size w wr) (fun i _=>l.length-(intOf i).toNat)
 case atStart=>exact⟨0,Nat.zero_le _,rfl,YR,Below.refl _ _⟩
 case round=>
  obtain⟨k,hk,rfl,wN,vK⟩:=hrel;have HN:=zh wN;clear wN;by_cases rU:k<l.length
  ·obtain⟨x,hx,QQ⟩:=getElem?_of_lt rU;have uP:=aD vK (hc k x hx).1;have HX:=zh hx;have tA:=zh (HP.out _ QQ _ vK);clear hc QQ hx;exact WC
  go_wp2_with fail;go_ret;exact⟨iJ (idxOf_none (findIdx_miss YM HN.out)).symm,vK⟩
theorem containsFunc_str(g:FuncId)(cap:Array Value)(p:bA->Bool)(l:List bA)(v:Value)(w:World)(hv:Strs w v l)
  (eg:∀args w,(callFunc g args).run Tryz.prog w=.ok (.enter g args) w) (hp:Tests Tryz.prog g cap Value.string p l w):
  Calls Tryz.prog 173 #[v,.func (.func g) #[] cap] w fun e w'=>e=.returned (.bool (l.any p))/\Below w.heap.size w w':=by
 have h:=zh (indexFunc_str g cap p l v w hv eg hp);have HA:=zh (idxOf_any p l);generalize nV p l=r at h HA;generalize l.any p=q at HA ⊢;clear hp hv eg;go_enter Tryz.func173,Tryz.ntmps173;go_wp2_with(go_at_call 208;refine h.out.mono ?_;rintro e w' ⟨rfl,uR⟩);go_ret;exact⟨aF HA.out,uR⟩
theorem lO(s:bA)(i:Nat):(iF s i).size=s.size-i:=by unfold iF;rw[ByteArray.size_extract];omega
theorem headB_size'(s:bA)(n:Nat)(h:n<=s.size):(jK s n).size=n:=by unfold jK;rw[ByteArray.size_extract];omega
theorem spanN_pos{p:UInt8->Bool}{s:bA}(vB:0<s.size)(hp:p s[0]=true):1<=dW p s.data.toList:=by
 obtain⟨r,hr⟩:=oR vB;rw[hr];unfold dW;simp[hp]
theorem signs_size:∀x,x∈eM->1<=x.size/\x.size<=2:=by
 intro x hx;simp only[eM,List.mem_cons,List.not_mem_nil,or_false] at hx;rcases hx with h|h|h|h|h|h|h|h|h|h|h|h|h|h<;>subst h<;>decide
theorem nextTok_ok{s:bA}(vB:0<s.size){k:Int}{t:bA}{n:Int}(h:fI s=.ok (k,t,n)):k≠3/\1<=t.size/\t.size<=s.size:=by
 obtain⟨r,hr⟩:=oR vB
 have hN:fI s=if gF s[0] then(if eZ (jK s (dW kH s.data.toList)) then .ok (0,jK s (dW kH s.data.toList),0) else .error 12)
  else if cL s[0] then(match cZ (jK s (dW cL s.data.toList)) with
   |some n=>.ok (1,jK s (dW cL s.data.toList),n)
   |none=>.error 3)
  else match eM.find? (lA s) with
   |some x=>.ok (2,x,0)
   |none=>.error 10:=by unfold fI;rw[hr];rfl
 rw[hN] at h;clear hN hr;have yM:∀p,dW p s.data.toList<=s.size:=fun p=>by rw[jD];exact spanN_le _ _
 split at h
 ·rename_i hl;split at h
  ·(injection h with h;injection h with h1 h2;injection h2 with h2 h3);subst h1 h2;rw[headB_size' _ _ (yM _)];exact⟨YO,spanN_pos vB (by unfold kH;rw[hl];rfl),yM _⟩
  cases h
 split at h
 ·rename_i hd;split at h
  ·(injection h with h;injection h with h1 h2;injection h2 with h2 h3);subst h1 h2;rw[headB_size' _ _ (yM _)];exact⟨YO,spanN_pos vB hd,yM _⟩
  cases h
 split at h
 ·rename_i x hx;injection h with h;injection h with h1 h2;injection h2 with h2 h3
  subst h1 h2;have h1:=signs_size _ (List.mem_of_find?_eq_some hx);have h2:=List.find?_some hx;refine⟨YO,h1.1,?_⟩;have:=(List.isPrefixOf_iff_prefix.1 h2).length_le;rw[jD,jD s];exact this
 cases h
theorem nextTok_err{s:bA}{e:Int}(h:fI s=.error e):e≠0:=by
 unfold fI at h;split at h
 ·cases h;decide
 split at h
 ·split at h
  ·cases h
  cases h;decide
 split at h
 ·split at h
  ·cases h
  cases h;decide
 split at h
 ·cases h
 cases h;decide
structure TokOk (s:bA) (l:List Tok):Prop where
 pos:0<l.length
 len:l.length<=s.size+1
 last:∀(k:Nat)(t:Tok),l[k]? =some t->t.kind≠3->k+1<l.length
 size:∀(t:Tok),t∈l->t.text.size<=s.size
theorem TokOk.of{s:bA}{out:List Tok}{p:Int}(h1:out.length<=s.size)(h2:∀t,t∈out->t.kind≠3/\t.text.size<=s.size):TokOk s (out++[⟨3,⟨#[]⟩,0,p⟩]):=by
 refine⟨YR,Y9,fun k t hk rO=>?_,fun t ht=>?_⟩
 ·have rU:=(Yb.1 hk).1;rw[List.length_append,List.length_singleton] at rU ⊢;by_cases OS:k<out.length
  ·omega
  rw[List.getElem?_append_right YM,show k-out.length=0 by omega] at hk;cases hk;exact absurd rfl rO
 rcases List.mem_append.1 ht with h|h
 ·exact(h2 t h).2
 rw[List.mem_singleton.1 h];exact Nat.zero_le _
section
variable {s:bA} {f i:Nat} {out:List Tok}
theorem lexFrom_end(h:i+dW dL (iF s i).data.toList=s.size):gE s (f+1) i out=.ok (out++[⟨3,⟨#[]⟩,0,s.size⟩]):=by rw[gE,if_pos h]
theorem lexFrom_bad{e:Int}(h:¬i+dW dL (iF s i).data.toList=s.size)(hn:fI (iF s (i+dW dL (iF s i).data.toList))=.error e):
  gE s (f+1) i out=.error ((i+dW dL (iF s i).data.toList:Nat),e):=by rw[gE,if_neg h,hn]
theorem lexFrom_on{k n:Int}{t:bA}(h:¬i+dW dL (iF s i).data.toList=s.size)(hn:fI (iF s (i+dW dL (iF s i).data.toList))=.ok (k,t,n)):
  gE s (f+1) i out=gE s f (i+dW dL (iF s i).data.toList+t.size) (out++[⟨k,t,n,(i+dW dL (iF s i).data.toList:Nat)⟩]):=by rw[gE,if_neg h,hn]
end
end Go.Proofs.YtiionicikdnnpaaGreatDoor
namespace Go.Proofs.YtiionicikdnnpaaGreatDoor
open Go.RowKit
def encFil(_:World)(f:Fil)(cs:List Value):Prop:=cs=[.string f.name,.string f.text]/\f.name.size<=140737488355328/\f.text.size<=140737488355328
def pJ(w:World)(v:Value)(l:List Fil):Prop:=Row 2 encFil w v l
theorem pJ.later{w w':World}{v:Value}{l:List Fil}(hb:Below w.heap.size w w')(h:pJ w v l):pJ w' v l:=Row.later hb (fun _ _ h=>h) h
theorem pJ.cases{w:World}{v:Value}{l:List Fil}(h:pJ w v l):
  (l=[]/\∃a c,v=.slice a 0 c)\/(∃b o c,v=.slice (some ⟨b,o,none⟩) l.length c/\0<l.length/\l.length<=c/\c<=9223372036854775807/\b<w.heap.size/\
   ∀i f,l[i]? =some f->w.cell? ⟨b,o+i*2,none⟩=some (.string f.name)/\w.cell? ⟨b,o+i*2+1,none⟩=some (.string f.text)/\f.name.size<=140737488355328/\f.text.size<=140737488355328):=by
 rcases Row.cases h with h|⟨b,o,c,hv,h0,h1,h2,hb,hc⟩
 ·exact .inl h
 refine .inr ⟨b,o,c,hv,h0,h1,h2,hb,fun i x hx=>?_⟩;obtain⟨cs,⟨e,hs⟩,-,hj⟩:=hc i x hx;exact⟨hj 0 (.string x.name) (by rw[e];rfl),hj 1 (.string x.text) (by rw[e];rfl),hs⟩
theorem enters_isName:∀args w,(callFunc 174 args).run Tryz.prog w=.ok (.enter 174 args) w:=enters_of Tryz.func174 YN rfl
theorem oT{w:World}{v:Value}{l:List bA}(h:Strs w v l):∃a c,v=.slice a l.length c:=by
 obtain⟨a,c,hv,-⟩:=h;exact⟨a,c,hv⟩
theorem toList_eq(s:bA):s.toList=s.data.toList:=Lib.toList_data s
theorem eG(a b:bA):(a.toList==b.toList)=decide (a=b):=by
 rw[toList_eq,toList_eq,Bool.eq_iff_iff];simp only[beq_iff_eq,decide_eq_true_eq];exact⟨fun h=>iN h,fun h=>by rw[h]⟩
theorem find1_any(name fn ft:bA)(b:Nat)(w:World)(hb:w.cell? ⟨b,0,none⟩=some (.string name)):
  Calls Tryz.prog 171 #[.agg #[.string fn,.string ft],.pointer (some ⟨b,0,none⟩)] w fun e w'=>e=.returned (.bool (decide (fn=name)))/\Below w.heap.size w w':=by
 have rU:=dS hb;go_enter Tryz.func171,Tryz.ntmps171;go_wp2_with fail;go_ret;exact⟨aF (eG _ _),(Below.refl _ _).alloc (Nat.le_refl _) _⟩
theorem indexFunc_fil(g:FuncId)(cap:Array Value)(p:Fil->Bool)(l:List Fil)(v:Value)(w:World)(hv:pJ w v l)
  (eg:∀args w,(callFunc g args).run Tryz.prog w=.ok (.enter g args) w) (hp:Tests Tryz.prog g cap (fun f:Fil=>.agg #[.string f.name,.string f.text]) p l w):
  Calls Tryz.prog 170 #[v,.func (.func g) #[] cap] w fun e w'=>e=.returned (.int .i64 (nV p l))/\Below w.heap.size w w':=by
 have HP:=zh hp;clear hp;rcases hv.cases with⟨rfl,a,c,rfl⟩|⟨b,o,c,rfl,h0,h1,h2,hb,hc⟩
 ·clear hv;go_enter Tryz.func170,Tryz.ntmps170;exact WO
 clear hv;go_enter Tryz.func170,Tryz.ntmps170;go_wp2_with fail;go_loopw [8] (fun i wr=>∃k:Nat,k<=l.length/\i=.int .i64 k/\(∀x,x∈l.take k->p x=false)/\Below w.heap.size w wr) (fun i _=>l.length-(intOf i).toNat)
 case atStart=>exact⟨0,Nat.zero_le _,rfl,YR,Below.refl _ _⟩
 case round=>
  obtain⟨k,hk,rfl,wN,vK⟩:=hrel;have HN:=zh wN;clear wN;by_cases rU:k<l.length
  ·obtain⟨x,hx,QQ⟩:=getElem?_of_lt rU;obtain⟨c1,c2,-,-⟩:=hc k x hx;have TI:=aD vK c1;have TH:=aD vK c2;have HX:=zh hx;have tA:=zh (HP.out _ QQ _ vK);clear hc QQ hx c1 c2;exact WC
  go_wp2_with fail;go_ret;exact⟨iJ (idxOf_none (findIdx_miss YM HN.out)).symm,vK⟩
theorem enters_find1:∀args w,(callFunc 171 args).run Tryz.prog w=.ok (.enter 171 args) w:=enters_of Tryz.func171 YN rfl
def nK(l:List Fil)(name:bA):Value:=match dK l name with
 |some t=>.tuple #[.string t,.bool true]
 |none=>.tuple #[.string ByteArray.empty,.bool false]
theorem findFile_idx(l:List Fil)(name:bA):
  (nV (fun f:Fil=>decide (f.name=name)) l= -1/\dK l name=none)\/∃(k:Nat)(f:Fil),l[k]? =some f/\nV (fun f:Fil=>decide (f.name=name)) l=k/\dK l name=some f.text:=by
 unfold nV dK
 cases h:l.findIdx? (fun f:Fil=>decide (f.name=name)) with
 |none=>
  refine .inl ⟨rfl,?_⟩;rw[List.findIdx?_eq_none_iff] at h;rw[List.find?_eq_none.2 (fun x hx=>by simpa using h x hx)];rfl
 |some k=>
  obtain⟨hk,hp,wN⟩:=List.findIdx?_eq_some_iff_getElem.1 h;refine .inr ⟨k,l[k],List.getElem?_eq_getElem hk,rfl,?_⟩
  have:l.find? (fun f:Fil=>decide (f.name=name))=some l[k]:=by
   rw[List.find?_eq_some_iff_getElem];exact⟨hp,k,hk,rfl,fun j hj=>by simpa using wN j hj⟩
  rw[this];rfl
theorem find_any(l:List Fil)(v:Value)(name:bA)(w:World)(hv:pJ w v l):
  Calls Tryz.prog 103 #[v,.string name] w fun e w'=>e=.returned (nK l name)/\Below w.heap.size w w':=by
 have LG:∀W,Below w.heap.size w W->W.heap[w.heap.size]? =some (iH name)->Calls Tryz.prog 170 #[v,.func (.func 171) #[] #[.pointer (some ⟨w.heap.size,0,none⟩)]] W
   fun e w'=>e=.returned (.int .i64 (nV (fun f:Fil=>decide (f.name=name)) l))/\Below W.heap.size W w':=fun W hb hW=>
  indexFunc_fil _ _ _ l v W (hv.later hb) enters_find1 (fun x _ W' uR=>by
   have h0:W.cell? ⟨w.heap.size,0,none⟩=some (.string name):=by simp[World.cell?,hW]
   exact find1_any name x.name x.text w.heap.size W' (aD uR h0))
 have HI:=zh LG;clear LG;have yE:=findFile_idx l name;unfold nK;rcases yE with⟨hi,hf⟩|⟨k,f,hk,hi,hf⟩
 ·rw[hf];rw[hi] at HI;obtain⟨a,c,hv,-⟩:=hv;subst hv;clear hi hf;go_enter Tryz.func103,Tryz.ntmps103;go_wp2_with(go_at_call 170;refine(HI.out _ (aA _ _) (dR _ _)).mono ?_;rintro e w' ⟨rfl,uR⟩);go_ret2;exact⟨rfl,aC (aA _ _) uR⟩
 rcases hv.cases with⟨rfl,-⟩|⟨b,o,c,rfl,h0,h1,h2,hb,hc⟩
 ·simp at hk
 rw[hf];rw[hi] at HI;obtain⟨c1,c2,-,-⟩:=hc k f hk;have hkl:k<l.length:=(Yb.1 hk).1;clear hi hf hc hk c1 hv;go_enter Tryz.func103,Tryz.ntmps103;go_wp2_with(go_at_call 170;refine(HI.out _ (aA _ _) (dR _ _)).mono ?_;rintro e w' ⟨rfl,uR⟩;have tE:=aD (aC (aA _ _) uR) c2);go_ret2;exact⟨rfl,aC (aA _ _) uR⟩
noncomputable def nD (l:List bA) (x:bA):Option Bool:=if l.any (fun y=>decide (y=x)) then some true else none
theorem mG(l:List bA)(x:bA):(nD l x).getD false=l.any (fun y=>decide (y=x)):=by
 unfold nD;cases h:l.any (fun y=>decide (y=x))<;>simp
theorem zero_bool(w:World):(zeroValue 4).run Tryz.prog w=.ok (.bool false) w:=YN
noncomputable def kG:KeyC Tryz.prog 9 bA:=strKey Tryz.underlying9
noncomputable def fZ:ValC Tryz.prog 4 Bool:=boolVal Tryz.underlying4 zero_bool
theorem maxLen_val:(140737488355328:Nat)<=maxLen:=YO
theorem bZ{ops:Array Oper}{rest:List Oper}{o:Oper}{a:Act}{Q:Exit->Act->World->Prop}{w:World}{b n:Nat}{m:bA->Option Bool}(h:bV kG fZ w b n m)
  {x:bA} (hx:x.size<=140737488355328) {r:Bool} (hr:(m x).getD false=r) {mo xo:Operand} (hg:o.guard=none) (tN:o.op=Op.lookup 117 mo xo false) (hm:a.eval mo=.map (some b)) (AB:a.eval xo=.string x)
  (hK:wpList Tryz.prog ops Q rest (a.put o.dst (.bool r)) w):wpList Tryz.prog ops Q (o::rest) a w:=
 wpList_look (K:=kG) (V:=fZ) hg tN Tryz.underlying117 h hm (Nat.le_trans hx maxLen_val) AB (by subst hr;exact hK)
theorem lF{ops:Array Oper}{rest:List Oper}{o:Oper}{a:Act}{Q:Exit->Act->World->Prop}{w:World}{b n:Nat}{m:bA->Option Bool}(h:bV kG fZ w b n m)(hn:n<9223372036854775807)
  {x:bA} (hx:x.size<=140737488355328) {r:Bool} {mo xo vo:Operand} (hg:o.guard=none) (tN:o.op=Op.mapUpdate 117 mo xo vo) (hm:a.eval mo=.map (some b)) (AB:a.eval xo=.string x) (hve:a.eval vo=.bool r)
  (hK:∀w',bV kG fZ w' b (n+1) (fun z=>if z=x then some r else m z)->w.grownBy w' (some b)->wpList Tryz.prog ops Q rest (a.put o.dst undef) w'):wpList Tryz.prog ops Q (o::rest) a w:=
 wpList_put (K:=kG) (V:=fZ) hg tN Tryz.underlying117 h Y7 hm (Nat.le_trans hx maxLen_val) AB (y:=r) trivial hve (fun w' h1 h2=>hK w' (by exact h1.ext (fun z=>by by_cases hz:z=x<;>simp[hz])) h2)
theorem oD(l:List bA)(y:bA):(fun z=>if z=y then some true else nD l z)=nD (y::l):=by
 funext z;unfold nD;by_cases h:z=y
 ·subst h;simp
 have:decide (y=z)=false:=decide_eq_false (fun e=>h e.symm);simp only[h,if_false,List.any_cons,this,Bool.false_or]
theorem qB{l:List Fil}{k:Nat}{x:Fil}{known:List bA}(hx:l[k]? =some x)(h:(known.any fun y=>decide (y=x.name))=true\/isName x.name=false\/65536<x.text.size)
  (hr:eN l []=eN (l.drop k) known):cX l=false:=by
 have e:l.drop k=x::l.drop (k+1):=by
  obtain⟨hk,rfl⟩:=Yb.1 hx;exact List.drop_eq_getElem_cons hk
 rw[cX,hr,e,eN];rcases h with h|h|h<;>simp[h]
theorem rightFrom_good{l:List Fil}{k:Nat}{x:Fil}{known:List bA}(hx:l[k]? =some x)(h1:(known.any fun y=>decide (y=x.name))=false)(h2:isName x.name=true)(h3:x.text.size<=65536)
  (hr:eN l []=eN (l.drop k) known):eN l []=eN (l.drop (k+1)) (x.name::known):=by
 have e:l.drop k=x::l.drop (k+1):=by
  obtain⟨hk,rfl⟩:=Yb.1 hx;exact List.drop_eq_getElem_cons hk
 rw[hr,e,eN,h1,h2];simp;omega
theorem rightFrom_end{l:List Fil}{k:Nat}{known:List bA}(hk:l.length<=k)(hr:eN l []=eN (l.drop k) known):cX l=decide (l.length<=60):=by
 rw[cX,hr,List.drop_of_length_le hk,eN];simp
theorem kN(l:List Fil)(v:Value)(w:World)(hv:pJ w v l):
  Calls Tryz.prog 104 #[v] w fun e w'=>e=.returned (.bool (cX l))/\Below w.heap.size w w':=by
 rcases hv.cases with⟨rfl,a,c,rfl⟩|⟨b,o,c,rfl,h0,h1,h2,hb,hc⟩
 ·have H8:=@run_makeMap Tryz.prog;clear hv;go_enter Tryz.func104,Tryz.ntmps104;go_wp2_with fail;go_loop [9] (fun i=>i=.int .i64 0) (fun i=>0)
  case atStart=>rfl
  case round=>
   subst hrel;go_wp2_with fail;go_ret;exact⟨rfl,aA _ _⟩
 have H8:=@run_makeMap Tryz.prog;clear hv;have HC:=zh hc;clear hc;go_enter Tryz.func104,Tryz.ntmps104;go_wp2_with fail;clear H8;go_loopw [9] (fun i wr=>∃(k:Nat)(known:List bA),k<=l.length/\i=.int .i64 k/\eN l []=eN (l.drop k) known/\bV kG fZ wr w.heap.size k (nD known)/\Below w.heap.size w wr) (fun i _=>l.length-(intOf i).toNat)
 case atStart=>exact⟨0,[],Nat.zero_le _,rfl,rfl,(bV.made w).ext (fun _=>rfl),aA _ _⟩
 case round=>
  obtain⟨k,known,hk,rfl,hr,hm,vK⟩:=hrel;have HR:=zh hr;clear hr;have EF:w.heap.size<wr.heap.size:=hm.lt;by_cases rU:k<l.length
  ·obtain⟨x,hx,-⟩:=getElem?_of_lt rU;obtain⟨c1,c2,s1,s2⟩:=HC.out k x hx;have TI:=aD vK c1;have TH:=aD vK c2;have HX:=zh hx;clear hx c1 c2 HC
   cases hq:known.any (fun y=>decide (y=x.name)) with
   |true=>
    have hl:=(mG known x.name).trans hq;have HQ:=zh hq;clear hq;have HL:=zh hl;clear hl;go_wp2_with(at_lookup;refine bZ (hm.alloc _) s1 HL.out rfl rfl rfl rfl ?_);go_ret;exact⟨aF (qB HX.out (.inl HQ.out) HR.out).symm,vK.trans ((aA _ _).mono vK.size)⟩
   |false=>
    have hl:=(mG known x.name).trans hq;have HQ:=zh hq;clear hq;have HL:=zh hl;clear hl
    cases hn:isName x.name with
    |false=>
     have tA:=isName_any x.name (wr.alloc (.cells #[.string x.name,.string x.text] 69)) s1;rw[hn] at tA;have HN:=zh hn;clear hn;have HCL:=zh tA;clear tA;go_wp2_with(first|(at_lookup;refine bZ (hm.alloc _) s1 HL.out rfl rfl rfl rfl ?_)|(go_at_call 172;refine HCL.out.mono ?_;rintro e w' ⟨rfl,rfl⟩));go_ret;exact⟨aF (qB HX.out (.inr (.inl HN.out)) HR.out).symm,vK.trans ((aA _ _).mono vK.size)⟩
    |true=>
     have tA:=isName_any x.name (wr.alloc (.cells #[.string x.name,.string x.text] 69)) s1;rw[hn] at tA;have HN:=zh hn;clear hn;have HCL:=zh tA;clear tA;go_wp2_with(first|(at_lookup;refine bZ (hm.alloc _) s1 HL.out rfl rfl rfl rfl ?_)|(go_at_call 172;refine HCL.out.mono ?_;rintro e w' ⟨rfl,rfl⟩)|(at_mapUpdate;refine lF (hm.alloc _) YM s1 rfl rfl rfl rfl rfl ?_;intro w1 AK A3))
     ·go_ret;exact⟨aF (qB HX.out (.inr (.inr YM)) HR.out).symm,vK.trans ((aA _ _).mono vK.size)⟩
     go_roundw;(case rel=>exact⟨k+1,x.name::known,YM,YZ,rightFrom_good HX.out HQ.out HN.out YM HR.out,AK.ext (fun z=>congrFun (oD known x.name) z),(vK.trans ((aA _ _).mono vK.size)).grown A3 Y9 (fun i hi=>by cases hi;exact Nat.le_refl _)⟩);case measure=>simp[intOf];omega
  go_wp2_with fail;go_ret;exact⟨aF (by rw[rightFrom_end YM HR.out];simp;omega),vK⟩
theorem iU(s:Stp)(vf:Value)(w:World)(hv:Strs w vf s.src)(hto:s.out.size<=140737488355328):
  Calls Tryz.prog 105 #[pA s.kind vf s.out s.sorted] w fun e w'=>e=.returned (.bool (cW s))/\Below w.heap.size w w':=by
 obtain⟨kind,src,tn,sorted⟩:=s;simp only at hv hto ⊢
 have hC:∀W,Below w.heap.size w W->Calls Tryz.prog 173 #[vf,.func (.func 174) #[] #[]] W fun e w'=>e=.returned (.bool (src.any fun x=> !isName x))/\Below W.heap.size W w':=fun W hb=>
  containsFunc_str _ _ _ src vf W (hv.later hb) enters_isName (fun x hx W' uR=>by
   refine(right1_any x W' (oL hv hx)).mono ?_;rintro e w' ⟨rfl,rfl⟩
   exact⟨rfl,Below.refl _ _⟩)
 have hN:∀W,Calls Tryz.prog 172 #[.string tn] W fun e w'=>e=.returned (.bool (isName tn))/\W=w':=fun W=>isName_any tn W hto;obtain⟨a,c,QT,-⟩:=hv;subst QT;have HC:=zh hC;clear hC;have HN:=zh hN;clear hN
 have hR:cW ⟨kind,src,tn,sorted⟩=if(!isName tn||src.any fun x=> !isName x) then false else if kind=2 then decide (src.length<=60)
   else if kind=1 then decide (src.length<=60)&& !sorted else if kind=0\/kind=3\/kind=4\/kind=5 then decide (src.length=1)&& !sorted else false:=rfl
 have HR:=zh hR;clear hR;generalize cW ⟨kind,src,tn,sorted⟩=R at HR ⊢;generalize hi:isName tn=ni at HN HR ⊢;generalize ha:(src.any fun x=> !isName x)=na at HC HR ⊢;clear hi ha
 cases ni with
 |false=>
  clear HC;go_enter Tryz.func105,Tryz.ntmps105;go_wp2_with(go_at_call 172;refine(HN.out _).mono ?_;rintro e w' ⟨rfl,rfl⟩);go_ret;exact⟨aF ZT,aA _ _⟩
 |true=>
  cases na with
  |true=>
   go_enter Tryz.func105,Tryz.ntmps105;go_wp2_with(first|(go_at_call 172;refine(HN.out _).mono ?_;rintro e w' ⟨rfl,rfl⟩)|(go_at_call 173;refine(HC.out _ (aA _ _)).mono ?_;rintro e w' ⟨rfl,uR⟩));go_ret;exact⟨aF ZT,aC (aA _ _) uR⟩
  |false=>
   by_cases k2:kind=2
   ·subst k2;go_enter Tryz.func105,Tryz.ntmps105;go_wp2_with(first|(go_at_call 172;refine(HN.out _).mono ?_;rintro e w' ⟨rfl,rfl⟩)|(go_at_call 173;refine(HC.out _ (aA _ _)).mono ?_;rintro e w' ⟨rfl,uR⟩;obtain⟨J3,LJ⟩:=bcell uR));go_ret;exact⟨aF (by rw[HR.out];simp;omega),aC (aA _ _) uR⟩
   by_cases k1:kind=1
   ·subst k1;go_enter Tryz.func105,Tryz.ntmps105;go_wp2_with(first|(go_at_call 172;refine(HN.out _).mono ?_;rintro e w' ⟨rfl,rfl⟩)|(go_at_call 173;refine(HC.out _ (aA _ _)).mono ?_;rintro e w' ⟨rfl,uR⟩;obtain⟨J3,LJ⟩:=bcell uR));(all_goals go_ret);all_goals exact⟨aF (by rw[HR.out];simp;try omega),aC (aA _ _) uR⟩
   have HK2:=zh k2;have HK1:=zh k1;(have b2:(kind==2)=false:=by simpa using k2);(have b1:(kind==1)=false:=by simpa using k1);clear k2 k1;by_cases kx:kind=0\/kind=3\/kind=4\/kind=5
   ·have HKX:=zh kx;by_cases hl:src.length=1
    ·(have bl:(((src.length:Nat):Int)==1)=true:=by simp[hl]);have HL:=zh hl;clear hl;rcases kx with rfl|rfl|rfl|rfl
     all_goals
      clear b2 b1;go_enter Tryz.func105,Tryz.ntmps105;go_wp2_with(first|(go_at_call 172;refine(HN.out _).mono ?_;rintro e w' ⟨rfl,rfl⟩)|(go_at_call 173;refine(HC.out _ (aA _ _)).mono ?_;rintro e w' ⟨rfl,uR⟩;obtain⟨J3,LJ⟩:=bcell uR));go_ret;exact⟨aF (by rw[HR.out,HL.out];rfl),aC (aA _ _) uR⟩
    have bl:(((src.length:Nat):Int)==1)=false:=YV;have HL:=zh hl;clear hl;rcases kx with rfl|rfl|rfl|rfl
    all_goals
     clear b2 b1;go_enter Tryz.func105,Tryz.ntmps105;go_wp2_with(first|(go_at_call 172;refine(HN.out _).mono ?_;rintro e w' ⟨rfl,rfl⟩)|(go_at_call 173;refine(HC.out _ (aA _ _)).mono ?_;rintro e w' ⟨rfl,uR⟩;obtain⟨J3,LJ⟩:=bcell uR));go_ret;exact⟨aF (by rw[HR.out,decide_eq_false HL.out];rfl),aC (aA _ _) uR⟩
   have HKX:=zh kx;have b0:(kind==0)=false:=YV;have b3:(kind==3)=false:=YV;have b4:(kind==4)=false:=YV;have b5:(kind==5)=false:=YV;clear kx;go_enter Tryz.func105,Tryz.ntmps105;go_wp2_with(first|(go_at_call 172;refine(HN.out _).mono ?_;rintro e w' ⟨rfl,rfl⟩)|(go_at_call 173;refine(HC.out _ (aA _ _)).mono ?_;rintro e w' ⟨rfl,uR⟩;obtain⟨J3,LJ⟩:=bcell uR));go_ret;exact⟨aF (by rw[HR.out,if_neg HK2.out,if_neg HK1.out,if_neg HKX.out];rfl),aC (aA _ _) uR⟩
end Go.Proofs.YtiionicikdnnpaaGreatDoor
