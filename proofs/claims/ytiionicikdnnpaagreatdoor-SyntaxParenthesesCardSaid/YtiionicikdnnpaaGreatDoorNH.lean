/- Texts of this seat, joined. -/
import Derived.Test.YtiionicikdnnpaaGreatDoorNB
import Derived.Test.YtiionicikdnnpaaGreatDoorND
set_option maxHeartbeats 800000
set_option linter.unusedVariables false
set_option linter.unusedSimpArgs false
namespace Go.Proofs.YtiionicikdnnpaaGreatDoor
open Go.RowKit
theorem QJ{p:Prop}(h:p:=by
 cases a<;>go_wp2_with(first|(go_at_call 141;refine(h1.out _).mono ?_;rintro e w' ⟨rfl,rfl⟩)|(go_at_call 143;refine(h2.out _).mono ?_;rintro e w' ⟨rfl,rfl⟩));all_goals go_ret
 all_goals exact⟨aE hw.out.symm,rfl⟩):p:=h
theorem blank_any(c:UInt8)(w:World):Calls Tryz.prog 99 #[.int .u8 c.toNat] w fun e w'=>e=.returned (.bool (cI c))/\w'=w:=by
 go_enter Tryz.func99,Tryz.ntmps99
 go_wp2
 all_goals go_ret
 all_goals refine⟨aE ?_,rfl⟩
 all_goals unfold cI
 all_goals rw[Bool.eq_iff_iff]
 all_goals simp
 all_goals omega
theorem letter_any(c:UInt8)(w:World):Calls Tryz.prog 141 #[.int .u8 c.toNat] w fun e w'=>e=.returned (.bool (fT c))/\w'=w:=by
 go_enter Tryz.func141,Tryz.ntmps141
 go_wp2
 all_goals go_ret
 all_goals refine⟨aE ?_,rfl⟩
 all_goals unfold fT
 all_goals rw[Bool.eq_iff_iff]
 all_goals simp
 all_goals omega
theorem pJ(c:UInt8)(w:World):Calls Tryz.prog 143 #[.int .u8 c.toNat] w fun e w'=>e=.returned (.bool (cF c))/\w'=w:=by
 go_enter Tryz.func143,Tryz.ntmps143
 go_wp2
 all_goals go_ret
 all_goals refine⟨aE ?_,rfl⟩
 all_goals unfold cF
 all_goals rw[Bool.eq_iff_iff]
 all_goals simp
 all_goals omega
theorem word1_any(c:UInt8)(w:World):Calls Tryz.prog 142 #[.int .u8 c.toNat] w fun e w'=>e=.returned (.bool (jL c))/\w'=w:=by
 have h1:=zh (letter_any c);have h2:=zh (pJ c);have hw:=zh (show jL c=(fT c||cF c) from rfl);generalize fT c=a at h1 hw;generalize cF c=b at h2 hw;go_enter Tryz.func142,Tryz.ntmps142;exact QJ
theorem lexnext1_any(c:UInt8)(w:World):Calls Tryz.prog 166 #[.int .u8 c.toNat] w fun e w'=>e=.returned (.bool (jL c))/\w'=w:=by
 have h1:=zh (letter_any c);have h2:=zh (pJ c);have hw:=zh (show jL c=(fT c||cF c) from rfl);generalize fT c=a at h1 hw;generalize cF c=b at h2 hw;go_enter Tryz.func166,Tryz.ntmps166;exact QJ
theorem spanN_hit{p:UInt8->Bool}:∀(l:List UInt8)(k:Nat),(∀x,x∈l.take k->p x=true)->k<=l.length->(∀x,l[k]? =some x->p x=false)->cR p l=k
 |[],k,_,h1,_=>by simp at h1;subst h1;rfl
 |x::l,0,_,_,h2=>by
  have:=h2 x rfl;simp[cR,this]
 |x::l,k+1,h0,h1,h2=>by
  have hx:=h0 x R2;have:=spanN_hit l k (fun y hy=>h0 y (by simp[hy])) (by simpa using h1) (fun y hy=>h2 y VE);unfold cR at this ⊢;simp[hx,this]
theorem spanN_le(p:UInt8->Bool)(l:List UInt8):cR p l<=l.length:=(List.takeWhile_sublist _).length_le
theorem span_any(g:FuncId)(p:UInt8->Bool)(s:bA)(w:World)(hs:s.size<=140737488355328)
  (eg:∀args w,(callFunc g args).run Tryz.prog w=.ok (.enter g args) w)
  (hp:∀c w,Calls Tryz.prog g #[.int .u8 (UInt8.toNat c)] w fun e w'=>e=.returned (.bool (p c))/\w'=w):
  Calls Tryz.prog 98 #[.string s,.func (.func g) #[] #[]] w fun e w'=>e=.returned (.int .i64 (cR p s.data.toList))/\w=w':=by
 have HP:=zh hp;clear hp;go_enter Tryz.func98,Tryz.ntmps98;go_wp2_with fail;go_loop [5] (fun i=>∃k:Nat,k<=s.size/\i=.int .i64 k/\Hid (∀x,x∈s.data.toList.take k->p x=true)) (fun i=>s.size-(intOf i).toNat)
 case atStart=>exact⟨0,Nat.zero_le _,rfl,zh R2⟩
 case round=>
  obtain⟨k,hk,rfl,HA⟩:=hrel;by_cases qA:k<s.size
  ·have HX:Hid (s.data.toList[k]? =some s[k]):=zh (by rw[List.getElem?_eq_getElem (by simpa using qA)];rfl);have wL:=zh (HP.out s[k])
   cases hq:p s[k] with
   |true=>
    rw[hq] at wL;have HQ:=zh hq;clear hq;go_wp2_with(go_at_fn g;refine(wL.out _).mono ?_;rintro e w' ⟨rfl,rfl⟩)
    go_round
    case rel=>
     refine⟨k+1,RY,SK,zh fun x hx=>?_⟩;rw[take_snoc s k qA,List.mem_append] at hx;rcases hx with hx|hx
     ·exact HA.out x hx
     simp at hx;rw[hx];exact HQ.out
    case measure=>simp[intOf];omega
   |false=>
    rw[hq] at wL;have HQ:=zh hq;clear hq;go_wp2_with(go_at_fn g;refine(wL.out _).mono ?_;rintro e w' ⟨rfl,rfl⟩);go_ret;exact⟨ret_int (by rw[spanN_hit _ k HA.out (by simpa using hk) (fun x hx=>by rw[HX.out] at hx;cases hx;exact HQ.out)]),rfl⟩
  go_wp2_with fail;go_ret;exact⟨ret_int (by rw[spanN_hit _ k HA.out (by simpa using hk) (fun x hx=>by rw[List.getElem?_eq_none SX] at hx;cases hx)]),rfl⟩
theorem enters_blank:∀args w,(callFunc 99 args).run Tryz.prog w=.ok (.enter 99 args) w:=enters_of Tryz.func99 RZ rfl
theorem enters_digit:∀args w,(callFunc 143 args).run Tryz.prog w=.ok (.enter 143 args) w:=enters_of Tryz.func143 RZ rfl
theorem enters_word1:∀args w,(callFunc 142 args).run Tryz.prog w=.ok (.enter 142 args) w:=enters_of Tryz.func142 RZ rfl
theorem enters_lexnext1:∀args w,(callFunc 166 args).run Tryz.prog w=.ok (.enter 166 args) w:=enters_of Tryz.func166 RZ rfl
theorem PJ{p:Prop}(h:p:=by
 clear rU;go_enter Tryz.func167,Tryz.ntmps167;go_wp2_with(go_at_call 98;refine vR.out.mono ?_;rintro e w' ⟨rfl,rfl⟩);go_loop [4,31] (fun n i=>∃k:Nat,k<=s.size/\i=.int .i64 k/\n=.int .i64 (iL (s.data.toList.take k))) (fun _ i=>s.size-(intOf i).toNat)
 case atStart=>exact⟨0,Nat.zero_le _,rfl,rfl⟩
 case round=>
  obtain⟨k,hk,rfl,rfl⟩:=hrel;by_cases qA:k<s.size
  ·have HN:Hid (iL (s.data.toList.take (k+1))=10*iL (s.data.toList.take k)+(s[k].toNat-48)):=zh (by rw[take_snoc s k qA,decOf_snoc])
   have hd1:48<=s[k].toNat/\s[k].toNat<=57:=by
    have:=List.all_eq_true.1 H1.out s[k] (by show s.data.toList[k]'(by simpa using qA)∈_;exact List.getElem_mem _);unfold cF at this;simpa using this
   have MP:=HD.out k hk;have HW3:=HN.out;have hcv:(s[k].toNat:Int)-48=((s[k].toNat-48:Nat):Int):=RY;generalize iL (s.data.toList.take k)=n at HN MP HW3 ⊢;go_wp2_with fail
   go_round
   (case rel=>exact⟨k+1,RY,SK,by rw[HN.out];go_num⟩);case measure=>simp[intOf];omega
  have MV:k=s.size:=RY;subst MV;have uQ:s.data.toList.take s.size=s.data.toList:=List.take_of_length_le R2;rw[uQ];clear HD uQ;generalize iL s.data.toList=n at HB zI ⊢;have hn:=HB.out;by_cases hm:(1099511627776:Int)<(n:Int)
  ·go_wp2_with fail;go_ret2;exact⟨by rw[zI.out,if_neg RY];rfl,rfl⟩
  go_wp2_with fail;go_ret2
  exact⟨by rw[zI.out,if_pos RY];rfl,rfl⟩):p:=h
theorem QO{p:Prop}(h:p:=by
 go_enter Tryz.func167,Tryz.ntmps167;go_wp2_with(go_at_call 98;refine vR.out.mono ?_;rintro e w' ⟨rfl,rfl⟩);go_ret2
 exact⟨by rw[HW.out,H1.out,H2.out,decide_eq_false (show ¬s.size<=13 by omega)];rfl,rfl⟩):p:=h
theorem toList_nil{s:bA}(h:s.size=0):s.toList=[]:=by rw[Lib.toList_data];exact List.eq_nil_of_length_eq_zero TR
theorem hZ(s:bA):s.size=s.data.toList.length:=R2
theorem toList_ne{s:bA}(h:0<s.size):¬s.toList=[]:=fun e=>by rw[Lib.toList_data] at e;rw[hZ,e] at h;exact absurd h R2
theorem mX{s:bA}(h:0<s.size):∃r,s.data.toList=s[0]::r:=by
 cases hh:s.data.toList with
 |nil=>rw[hZ,hh] at h;exact absurd h R2
 |cons c r=>
  refine⟨r,?_⟩;have:s[0]=s.data.toList[0]'(by rw[hh];simp):=rfl;rw[this];simp[hh]
theorem spanN_all{p:UInt8->Bool}:∀(l:List UInt8),decide (cR p l=l.length)=l.all p
 |[]=>rfl
 |x::l=>by
  have:=spanN_all (p:=p) l;unfold cR at this ⊢
  cases hx:p x with
  |false=>simp[hx]
  |true=>simp[hx];simpa using this
theorem nat_beq(a b:Nat):((a:Int)==(b:Int))=decide (a=b):=SP
theorem word_any(s:bA)(w:World)(hs:s.size<=140737488355328):Calls Tryz.prog 59 #[.string s] w fun e w'=>e=.returned (.bool (eT s))/\w=w':=by
 have vR:=zh (span_any 142 jL s w hs enters_word1 word1_any);by_cases h0:s.size=0
 ·have h1:=toList_nil h0;have HW:Hid (eT s=false):=zh (by unfold eT;rw[<-Lib.toList_data,h1]);go_enter Tryz.func59,Tryz.ntmps59;go_wp2_with fail;go_ret;exact⟨aE HW.out.symm,rfl⟩
 have sQ:0<s.size:=RY;have h1:=toList_ne sQ;have hE:s.toList.isEmpty=false:=by cases hh:s.toList with|nil=>exact absurd hh h1|cons=>rfl
 obtain⟨r,hr⟩:=mX sQ
 have HW:Hid (eT s=(fT s[0]&&decide (s.size<=20)&&decide (cR jL s.data.toList=s.size))):=zh (by
  rw[show decide (cR jL s.data.toList=s.size)=s.data.toList.all jL by rw[hZ s,spanN_all]];unfold eT;rw[hr])
 have HL:=zh (letter_any s[0] w);clear hr;generalize fT s[0]=a at HW HL
 cases a with
 |false=>
  go_enter Tryz.func59,Tryz.ntmps59;go_wp2_with(go_at_call 141;refine HL.out.mono ?_;rintro e w' ⟨rfl,rfl⟩);go_ret;exact⟨aE (by rw[HW.out];rfl),rfl⟩
 |true=>
  by_cases h20:(20:Int)<(s.size:Int)
  ·go_enter Tryz.func59,Tryz.ntmps59;go_wp2_with(go_at_call 141;refine HL.out.mono ?_;rintro e w' ⟨rfl,rfl⟩);go_ret;exact⟨aE (by rw[HW.out,decide_eq_false RY];rfl),rfl⟩
  go_enter Tryz.func59,Tryz.ntmps59;go_wp2_with(first|(go_at_call 141;refine HL.out.mono ?_;rintro e w' ⟨rfl,rfl⟩)|(go_at_call 98;refine vR.out.mono ?_;rintro e w' ⟨rfl,rfl⟩));go_ret;exact⟨aE (by rw[HW.out,decide_eq_true (show s.size<=20 by omega),nat_beq];rfl),rfl⟩
theorem beq_zero(s:bA):(s.toList==[48])=decide (s=⟨#[48]⟩):=by
 have h:(⟨#[48]⟩:bA).toList=[48]:=by rw[Lib.toList_data]
 rw[Bool.eq_iff_iff];simp only[beq_iff_eq,decide_eq_true_eq];constructor
 ·intro e;rw[Lib.toList_data] at e;cases s with|mk d=>cases d;simp at e;subst e;rfl
 intro e;rw[e,h]
theorem decOf_snoc(l:List UInt8)(c:UInt8):iL (l++[c])=10*iL l+(c.toNat-48):=by unfold iL;rw[List.foldl_append];rfl
theorem decOf_go:∀(l:List UInt8)(n k:Nat),l.all cF=true->n<10 ^ k->l.foldl (fun n c=>10*n+(c.toNat-48)) n<10 ^ (k+l.length)
 |[],n,k,_,h=>TR
 |c::l,n,k,ha,h=>by
  simp only[List.all_cons,Bool.and_eq_true] at ha;have hc:c.toNat<=57:=by have:=ha.1;unfold cF at this;simp at this;omega
  have:=decOf_go l (10*n+(c.toNat-48)) (k+1) ha.2 (by rw[Nat.pow_succ];omega);simp only[List.foldl_cons,List.length_cons];rw[show k+(l.length+1)=k+1+l.length by omega];exact this
theorem decOf_lt(l:List UInt8)(h:l.all cF=true):iL l<10 ^ l.length:=by
 have:=decOf_go l 0 0 h R0;simpa[iL] using this
theorem all_take{p:UInt8->Bool}{l:List UInt8}(h:l.all p=true)(k:Nat):(l.take k).all p=true:=by
 rw[List.all_eq_true] at h ⊢;exact fun x hx=>h x (List.mem_of_mem_take hx)
abbrev tokV(k:Int)(t:bA)(n pos:Int):Value:=oBx18 k t n pos
def numV(r:Option Nat):Value:=match r with|some n=>.tuple #[.int .i64 n,.bool true]|none=>.tuple #[.int .i64 0,.bool false]
theorem number_any(s:bA)(w:World)(hs:s.size<=140737488355328):Calls Tryz.prog 167 #[.string s] w fun e w'=>e=.returned (numV (cO s))/\w=w':=by
 have vR:=zh (span_any 143 cF s w hs enters_digit pJ);by_cases h0:s.size=0
 ·have h1:=toList_nil h0;have HW:Hid (cO s=none):=zh (by unfold cO;rw[<-Lib.toList_data,h1]);go_enter Tryz.func167,Tryz.ntmps167;go_wp2_with fail;go_ret2;exact⟨by rw[HW.out];rfl,rfl⟩
 have sQ:0<s.size:=RY;have h1:=toList_ne sQ;obtain⟨r,hr⟩:=mX sQ;have hz:=beq_zero s
 have HA:Hid (decide (cR cF s.data.toList=s.size)=s.data.toList.all cF):=zh (by
  rw[hZ s,spanN_all])
 have HW:Hid (cO s=if s.data.toList.all cF&& !(decide (s[0].toNat=48)&&decide (s.size≠1))&&decide (s.size<=13)&&decide (iL s.data.toList<=1099511627776) then some (iL s.data.toList) else none):=zh (by
  unfold cO;rw[hr])
 clear hr;have hE:s.toList.isEmpty=false:=by cases hh:s.toList with|nil=>exact absurd hh h1|cons=>rfl
 have M6:∀v,(s.data.toList.all cF&& !(decide (s[0].toNat=48)&&decide (s.size≠1))&&decide (s.size<=13))=false->v=numV none->v=numV (cO s):=by
  intro v h e;rw[HW.out,h,e];rfl
 by_cases g1:cR cF s.data.toList=s.size
 ·have H1:Hid (s.data.toList.all cF=true):=zh (by rw[<-HA.out,decide_eq_true g1]);rw[g1] at vR;by_cases g2:s[0].toNat=48/\s.size≠1
  ·have hc:(s[0].toNat:Int)=48:=RY;(have rU:¬s.toList=[48]:=fun e=>by rw[Lib.toList_data] at e;have:=hZ s;rw[e] at this;exact g2.2 (by simpa using this));have g:=zh g2;clear g2 hz;go_enter Tryz.func167,Tryz.ntmps167;go_wp2_with(go_at_call 98;refine vR.out.mono ?_;rintro e w' ⟨rfl,rfl⟩);go_ret2;exact⟨by rw[HW.out,H1.out,decide_eq_true g.out.1,decide_eq_true g.out.2];rfl,rfl⟩
  have rU:(s[0].toNat:Int)=48->s.toList=[48]:=by
   intro e;have e1:s.size=1:=RY;obtain⟨r,hr⟩:=mX sQ;(have e2:r=[]:=by have:=hZ s;rw[hr] at this;simp at this;exact List.eq_nil_of_length_eq_zero RY);rw[Lib.toList_data,hr,e2];congr 1;exact UInt8.toNat_inj.1 (by rw[show(48:UInt8).toNat=48 from rfl];omega)
  have H2:Hid ((!(decide (s[0].toNat=48)&&decide (s.size≠1)))=true):=zh (by
   rw[Bool.not_eq_true',Bool.and_eq_false_iff,decide_eq_false_iff_not,decide_eq_false_iff_not];omega)
  clear hz g2;by_cases g3:(13:Int)<(s.size:Int)
  ·by_cases hc:(s[0].toNat:Int)=48
   ·have:=rU hc;exact QO
   clear rU;exact QO
  have sV:(s.size:Int)<=13:=RY;have HB:Hid (iL s.data.toList<10 ^ 13):=zh (Nat.lt_of_lt_of_le (decOf_lt _ H1.out) (Nat.pow_le_pow_right R0 (by rw[<-hZ];omega)))
  have HD:∀k,k<=s.size->iL (s.data.toList.take k)<10 ^ 13:=fun k hk=>
   Nat.lt_of_lt_of_le (decOf_lt _ (all_take H1.out k)) (Nat.pow_le_pow_right R0 (by rw[List.length_take];omega))
  have HD:=zh HD
  have zI:Hid (cO s=if iL s.data.toList<=1099511627776 then some (iL s.data.toList) else none):=zh (by
   rw[HW.out,H1.out,H2.out,decide_eq_true (show s.size<=13 by omega)];simp)
  clear HW M6;by_cases hc:(s[0].toNat:Int)=48
  ·have CD:=rU hc;(have DP:(s.toList==[48])=true:=by rw[CD];rfl);exact PJ
  have sI:((s[0].toNat:Int)==48)=false:=by rw[beq_eq_false_iff_ne];exact hc
  exact PJ
 have H1:Hid (s.data.toList.all cF=false):=zh (by rw[<-HA.out,decide_eq_false g1]);have g1':((cR cF s.data.toList:Int)==(s.size:Int))=false:=SA;go_enter Tryz.func167,Tryz.ntmps167;go_wp2_with(go_at_call 98;refine vR.out.mono ?_;rintro e w' ⟨rfl,rfl⟩);go_ret2;exact⟨by rw[HW.out,H1.out];rfl,rfl⟩
theorem isName_bad(s:bA)(k:Nat)(h:k<s.size)(hb:(s[k].toNat:Int)<33\/126<(s[k].toNat:Int)):isName s=false:=by
 have hf:s.data.toList.all oW=false:=by
  rw[List.all_eq_false];refine⟨s[k],?_,?_⟩
  ·have:s[k]=s.data.toList[k]' TR:=rfl;rw[this];exact List.getElem_mem _
  simp[oW];omega
 simp[isName,hf]
theorem isName_empty(s:bA)(h:s.toList=[]):isName s=false:=by simp[isName,h]
theorem isName_full(s:bA)(h:s.data.toList.all oW=true)(pQ:¬s.toList=[]):isName s=decide (s.size<=20):=by
 have h2:s.toList.isEmpty=false:=by cases hh:s.toList with
  |nil=>exact absurd hh pQ
  |cons=>rfl
 rw[isName,h,h2];simp
theorem notEmpty_and{s:bA}{a b:Bool}(h:¬s.toList=[])(e:a=b):(!s.toList.isEmpty&&a)=b:=by
 cases hh:s.toList with
 |nil=>exact absurd hh h
 |cons=>simpa using e
theorem isName_any(s:bA)(w:World)(hs:s.size<=140737488355328):
  Calls Tryz.prog 172 #[.string s] w fun e w'=>e=.returned (.bool (isName s))/\w=w':=by
 go_enter Tryz.func172,Tryz.ntmps172
 go_wp2
 go_loop [6] (fun i=>∃k:Nat,k<=s.size/\i=.int .i64 k/\(s.data.toList.take k).all oW=true) (fun i=>s.size-(intOf i).toNat)
 case atStart=>exact⟨0,Nat.zero_le _,rfl,rfl⟩
 case round=>
  obtain⟨k,hk,rfl,uQ⟩:=hrel;have HA:=zh uQ;clear uQ
  go_wp2
  ·go_ret;exact⟨aE (isName_bad s k ‹_› ‹_›).symm,rfl⟩
  ·go_round
   (case rel=>exact⟨k+1,RY,SK,by rw[take_snoc s k ‹_›,List.all_append,HA.out];simp[oW];omega⟩);case measure=>simp[intOf];omega
  ·go_ret;exact⟨aE (isName_bad s k ‹_› (Or.inl ‹_›)).symm,rfl⟩
  ·go_ret;exact⟨aE (isName_empty s ‹_›).symm,rfl⟩
  have MV:k=s.size:=RY;subst MV;go_ret;have h1:=HA.out;rw[List.take_of_length_le R2] at h1;exact⟨aE (by rw[isName_full s h1 ‹_›];exact notEmpty_and ‹_› SX),rfl⟩
theorem right1_any(s:bA)(w:World)(hs:s.size<=140737488355328):
  Calls Tryz.prog 174 #[.string s] w fun e w'=>e=.returned (.bool (!isName s))/\w=w':=by
 go_enter Tryz.func174,Tryz.ntmps174;go_wp2_with(go_at_call 172;refine(isName_any _ _ hs).mono ?_;rintro e w' ⟨rfl,rfl⟩);go_ret;exact⟨rfl,rfl⟩
def Tests{α:Type}(P:Program)(g:FuncId)(cap:Array Value)(enc:α->Value)(p:α->Bool)(l:List α)(w:World):Prop:=
 ∀x,x∈l->∀W,Below w.heap.size w W->Calls P g (#[enc x]++cap) W fun e W'=>e=.returned (.bool (p x))/\Below W.heap.size W W'
theorem findIdx_hit{α:Type}{p:α->Bool}{l:List α}{k:Nat}{x:α}(hx:l[k]? =some x)(hp:p x=true)(uP:∀y,y∈l.take k->p y=false):l.findIdx? p=some k:=by
 rw[List.findIdx?_eq_some_iff_getElem];obtain⟨h,rfl⟩:=Yb.1 hx;refine⟨h,hp,fun j hj=>?_⟩;have:=uP l[j] (by rw[List.mem_take_iff_getElem];exact⟨j,RY,rfl⟩);simp[this]
theorem take_no{α:Type}{p:α->Bool}{l:List α}{k:Nat}{x:α}(hx:l[k]? =some x)(hp:p x=false)(uP:∀y,y∈l.take k->p y=false):∀y,y∈l.take (k+1)->p y=false:=by
 intro y hy;rw[List.take_add_one,List.mem_append] at hy;rcases hy with hy|hy
 ·exact uP y hy
 rw[hx] at hy;simp at hy;rw[hy];exact hp
theorem findIdx_miss{α:Type}{p:α->Bool}{l:List α}{k:Nat}(hk:l.length<=k)(uP:∀y,y∈l.take k->p y=false):l.findIdx? p=none:=by
 rw[List.findIdx?_eq_none_iff];intro x hx;rw[List.take_of_length_le hk] at uP;simp[uP x hx]
def idxOf{α:Type}(p:α->Bool)(l:List α):Int:=match l.findIdx? p with|some i=>(i:Int)|none=> -1
theorem idxOf_some{α:Type}{p:α->Bool}{l:List α}{k:Nat}(h:l.findIdx? p=some k):idxOf p l=k:=by unfold idxOf;rw[h]
theorem idxOf_none{α:Type}{p:α->Bool}{l:List α}(h:l.findIdx? p=none):idxOf p l= -1:=by unfold idxOf;rw[h]
theorem idxOf_any{α:Type}(p:α->Bool)(l:List α):decide (0<=idxOf p l)=l.any p:=by
 unfold idxOf
 cases h:l.findIdx? p with
 |none=>
  rw[List.findIdx?_eq_none_iff] at h;have:l.any p=false:=by rw[List.any_eq_false];intro x hx;simp[h x hx]
  rw[this];rfl
 |some i=>
  obtain⟨hi,hp,-⟩:=List.findIdx?_eq_some_iff_getElem.1 h;have:l.any p=true:=List.any_eq_true.2 ⟨_,List.getElem_mem hi,hp⟩;rw[this];simp
theorem indexFunc_str(g:FuncId)(cap:Array Value)(p:bA->Bool)(l:List bA)(v:Value)(w:World)(hv:Strs w v l)
  (eg:∀args w,(callFunc g args).run Tryz.prog w=.ok (.enter g args) w) (hp:Tests Tryz.prog g cap Value.string p l w):
  Calls Tryz.prog 208 #[v,.func (.func g) #[] cap] w fun e w'=>e=.returned (.int .i64 (idxOf p l))/\Below w.heap.size w w':=by
 have HP:=zh hp;clear hp;rcases hv.cases with⟨rfl,a,c,rfl⟩|⟨b,o,c,rfl,h0,h1,h2,hb,hc⟩
 ·clear hv;go_enter Tryz.func208,Tryz.ntmps208;go_wp2_with fail;go_loop [8] (fun i=>i=.int .i64 0) (fun i=>0)
  case atStart=>rfl
  case round=>
   subst hrel;go_wp2_with fail;go_ret;exact⟨rfl,Below.refl _ _⟩
 clear hv;go_enter Tryz.func208,Tryz.ntmps208;go_wp2_with fail;go_loopw [8] (fun i wr=>∃k:Nat,k<=l.length/\i=.int .i64 k/\(∀x,x∈l.take k->p x=false)/\Below w.heap.size w wr) (fun i _=>l.length-(intOf i).toNat)
 case atStart=>exact⟨0,Nat.zero_le _,rfl,R2,Below.refl _ _⟩
 case round=>
  obtain⟨k,hk,rfl,uP,zH⟩:=hrel;have HN:=zh uP;clear uP;by_cases qA:k<l.length
  ·obtain⟨x,hx,hxl⟩:=getElem?_of_lt qA;have uA:=aD zH (hc k x hx).1;have HX:=zh hx;have wL:=zh (HP.out _ hxl _ zH);clear hc hxl hx
   cases hq:p x with
   |true=>
    rw[hq] at wL;have HQ:=zh hq;clear hq;go_wp2_with(go_at_fn g;refine(wL.out).mono ?_;rintro e w' ⟨rfl,vI⟩);go_ret;exact⟨ret_int (idxOf_some (findIdx_hit HX.out HQ.out HN.out)).symm,aA zH vI⟩
   |false=>
    rw[hq] at wL;have HQ:=zh hq;clear hq;go_wp2_with(go_at_fn g;refine(wL.out).mono ?_;rintro e w' ⟨rfl,vI⟩);go_roundw;(case rel=>exact⟨k+1,RY,SK,take_no HX.out HQ.out HN.out,aA zH vI⟩);case measure=>simp[intOf];omega
  go_wp2_with fail;go_ret;exact⟨ret_int (idxOf_none (findIdx_miss RY HN.out)).symm,zH⟩
theorem containsFunc_str(g:FuncId)(cap:Array Value)(p:bA->Bool)(l:List bA)(v:Value)(w:World)(hv:Strs w v l)
  (eg:∀args w,(callFunc g args).run Tryz.prog w=.ok (.enter g args) w) (hp:Tests Tryz.prog g cap Value.string p l w):
  Calls Tryz.prog 173 #[v,.func (.func g) #[] cap] w fun e w'=>e=.returned (.bool (l.any p))/\Below w.heap.size w w':=by
 have h:=zh (indexFunc_str g cap p l v w hv eg hp);have HA:=zh (idxOf_any p l);generalize idxOf p l=r at h HA;generalize l.any p=q at HA ⊢;clear hp hv eg;go_enter Tryz.func173,Tryz.ntmps173;go_wp2_with(go_at_call 208;refine h.out.mono ?_;rintro e w' ⟨rfl,vI⟩);go_ret;exact⟨aE HA.out,vI⟩
theorem iO(s:bA)(i:Nat):(eZ s i).size=s.size-i:=by unfold eZ;rw[ByteArray.size_extract];omega
theorem headB_size'(s:bA)(n:Nat)(h:n<=s.size):(iJ s n).size=n:=by unfold iJ;rw[ByteArray.size_extract];omega
theorem spanN_pos{p:UInt8->Bool}{s:bA}(sQ:0<s.size)(hp:p s[0]=true):1<=cR p s.data.toList:=by
 obtain⟨r,hr⟩:=mX sQ;rw[hr];unfold cR;simp[hp]
theorem signs_size:∀x,x∈dU->1<=x.size/\x.size<=2:=by
 intro x hx;simp only[dU,List.mem_cons,List.not_mem_nil,or_false] at hx;rcases hx with h|h|h|h|h|h|h|h|h|h|h|h|h|h<;>subst h<;>decide
theorem nextTok_ok{s:bA}(sQ:0<s.size){k:Int}{t:bA}{n:Int}(h:eR s=.ok (k,t,n)):k≠3/\1<=t.size/\t.size<=s.size:=by
 obtain⟨r,hr⟩:=mX sQ
 have hN:eR s=if fT s[0] then(if eT (iJ s (cR jL s.data.toList)) then .ok (0,iJ s (cR jL s.data.toList),0) else .error 12)
  else if cF s[0] then(match cO (iJ s (cR cF s.data.toList)) with
   |some n=>.ok (1,iJ s (cR cF s.data.toList),n)
   |none=>.error 3)
  else match dU.find? (kB s) with
   |some x=>.ok (2,x,0)
   |none=>.error 10:=by unfold eR;rw[hr];rfl
 rw[hN] at h;clear hN hr;have zS:∀p,cR p s.data.toList<=s.size:=fun p=>by rw[hZ];exact spanN_le _ _
 split at h
 ·rename_i hl;split at h
  ·(injection h with h;injection h with h1 h2;injection h2 with h2 h3);subst h1 h2;rw[headB_size' _ _ (zS _)];exact⟨R0,spanN_pos sQ (by unfold jL;rw[hl];rfl),zS _⟩
  cases h
 split at h
 ·rename_i hd;split at h
  ·(injection h with h;injection h with h1 h2;injection h2 with h2 h3);subst h1 h2;rw[headB_size' _ _ (zS _)];exact⟨R0,spanN_pos sQ hd,zS _⟩
  cases h
 split at h
 ·rename_i x hx;injection h with h;injection h with h1 h2;injection h2 with h2 h3
  subst h1 h2;have h1:=signs_size _ (List.mem_of_find?_eq_some hx);have h2:=List.find?_some hx;refine⟨R0,h1.1,?_⟩;have:=(List.isPrefixOf_iff_prefix.1 h2).length_le;rw[hZ,hZ s];exact this
 cases h
theorem nextTok_err{s:bA}{e:Int}(h:eR s=.error e):e≠0:=by
 unfold eR at h;split at h
 ·cases h;decide
 split at h
 ·split at h
  ·cases h
  cases h;decide
 split at h
 ·split at h
  ·cases h
  cases h;decide
 split at h
 ·cases h
 cases h;decide
structure TokOk (s:bA) (l:List Tok):Prop where
 pos:0<l.length
 len:l.length<=s.size+1
 last:∀(k:Nat)(t:Tok),l[k]? =some t->t.kind≠3->k+1<l.length
 size:∀(t:Tok),t∈l->t.text.size<=s.size
theorem TokOk.of{s:bA}{out:List Tok}{p:Int}(h1:out.length<=s.size)(h2:∀t,t∈out->t.kind≠3/\t.text.size<=s.size):TokOk s (out++[⟨3,⟨#[]⟩,0,p⟩]):=by
 refine⟨R2,SX,fun k t hk pQ=>?_,fun t ht=>?_⟩
 ·have qA:=(Yb.1 hk).1;rw[List.length_append,List.length_singleton] at qA ⊢;by_cases JS:k<out.length
  ·omega
  rw[List.getElem?_append_right RY,show k-out.length=0 by omega] at hk;cases hk;exact absurd rfl pQ
 rcases List.mem_append.1 ht with h|h
 ·exact(h2 t h).2
 rw[List.mem_singleton.1 h];exact Nat.zero_le _
section
variable {s:bA} {f i:Nat} {out:List Tok}
theorem lexFrom_end(h:i+cR cI (eZ s i).data.toList=s.size):eK s (f+1) i out=.ok (out++[⟨3,⟨#[]⟩,0,s.size⟩]):=by rw[eK,if_pos h]
theorem lexFrom_bad{e:Int}(h:¬i+cR cI (eZ s i).data.toList=s.size)(hn:eR (eZ s (i+cR cI (eZ s i).data.toList))=.error e):
  eK s (f+1) i out=.error ((i+cR cI (eZ s i).data.toList:Nat),e):=by rw[eK,if_neg h,hn]
theorem lexFrom_on{k n:Int}{t:bA}(h:¬i+cR cI (eZ s i).data.toList=s.size)(hn:eR (eZ s (i+cR cI (eZ s i).data.toList))=.ok (k,t,n)):
  eK s (f+1) i out=eK s f (i+cR cI (eZ s i).data.toList+t.size) (out++[⟨k,t,n,(i+cR cI (eZ s i).data.toList:Nat)⟩]):=by rw[eK,if_neg h,hn]
end
end Go.Proofs.YtiionicikdnnpaaGreatDoor
namespace Go.Proofs.YtiionicikdnnpaaGreatDoor
open Go.RowKit
def encFil(_:World)(f:Fil)(cs:List Value):Prop:=cs=[.string f.name,.string f.text]/\f.name.size<=140737488355328/\f.text.size<=140737488355328
def Fils(w:World)(v:Value)(l:List Fil):Prop:=Row 2 encFil w v l
theorem Fils.later{w w':World}{v:Value}{l:List Fil}(hb:Below w.heap.size w w')(h:Fils w v l):Fils w' v l:=Row.later hb (fun _ _ h=>h) h
theorem Fils.cases{w:World}{v:Value}{l:List Fil}(h:Fils w v l):
  (l=[]/\∃a c,v=.slice a 0 c)\/(∃b o c,v=.slice (some ⟨b,o,none⟩) l.length c/\0<l.length/\l.length<=c/\c<=9223372036854775807/\b<w.heap.size/\
   ∀i f,l[i]? =some f->w.cell? ⟨b,o+i*2,none⟩=some (.string f.name)/\w.cell? ⟨b,o+i*2+1,none⟩=some (.string f.text)/\f.name.size<=140737488355328/\f.text.size<=140737488355328):=by
 rcases Row.cases h with h|⟨b,o,c,hv,h0,h1,h2,hb,hc⟩
 ·exact .inl h
 refine .inr ⟨b,o,c,hv,h0,h1,h2,hb,fun i x hx=>?_⟩;obtain⟨cs,⟨e,hs⟩,-,hj⟩:=hc i x hx;exact⟨hj 0 (.string x.name) (by rw[e];rfl),hj 1 (.string x.text) (by rw[e];rfl),hs⟩
theorem enters_isName:∀args w,(callFunc 174 args).run Tryz.prog w=.ok (.enter 174 args) w:=enters_of Tryz.func174 RZ rfl
theorem strs_slice{w:World}{v:Value}{l:List bA}(h:Strs w v l):∃a c,v=.slice a l.length c:=by
 obtain⟨a,c,hv,-⟩:=h;exact⟨a,c,hv⟩
theorem toList_eq(s:bA):s.toList=s.data.toList:=Lib.toList_data s
theorem eE(a b:bA):(a.toList==b.toList)=decide (a=b):=by
 rw[toList_eq,toList_eq,Bool.eq_iff_iff];simp only[beq_iff_eq,decide_eq_true_eq];exact⟨fun h=>bytes_ext h,fun h=>by rw[h]⟩
noncomputable def mK (l:List bA) (x:bA):Option Bool:=if l.any (fun y=>decide (y=x)) then some true else none
theorem knownOf_getD(l:List bA)(x:bA):(mK l x).getD false=l.any (fun y=>decide (y=x)):=by
 unfold mK;cases h:l.any (fun y=>decide (y=x))<;>simp
theorem zero_bool(w:World):(zeroValue 4).run Tryz.prog w=.ok (.bool false) w:=RZ
noncomputable def jQ:KeyC Tryz.prog 9 bA:=strKey Tryz.underlying9
noncomputable def fU:ValC Tryz.prog 4 Bool:=boolVal Tryz.underlying4 zero_bool
theorem maxLen_val:(140737488355328:Nat)<=maxLen:=R0
theorem cJ{ops:Array Oper}{rest:List Oper}{o:Oper}{a:Act}{Q:Exit->Act->World->Prop}{w:World}{b n:Nat}{m:bA->Option Bool}(h:bR jQ fU w b n m)
  {x:bA} (hx:x.size<=140737488355328) {r:Bool} (hr:(m x).getD false=r) {mo xo:Operand} (hg:o.guard=none) (uT:o.op=Op.lookup 117 mo xo false) (hm:a.eval mo=.map (some b)) (yT:a.eval xo=.string x)
  (hK:wpList Tryz.prog ops Q rest (a.put o.dst (.bool r)) w):wpList Tryz.prog ops Q (o::rest) a w:=
 wpList_look (K:=jQ) (V:=fU) hg uT Tryz.underlying117 h hm (Nat.le_trans hx maxLen_val) yT (by subst hr;exact hK)
theorem lQ{ops:Array Oper}{rest:List Oper}{o:Oper}{a:Act}{Q:Exit->Act->World->Prop}{w:World}{b n:Nat}{m:bA->Option Bool}(h:bR jQ fU w b n m)(hn:n<9223372036854775807)
  {x:bA} (hx:x.size<=140737488355328) {r:Bool} {mo xo vo:Operand} (hg:o.guard=none) (uT:o.op=Op.mapUpdate 117 mo xo vo) (hm:a.eval mo=.map (some b)) (yT:a.eval xo=.string x) (hve:a.eval vo=.bool r)
  (hK:∀w',bR jQ fU w' b (n+1) (fun z=>if z=x then some r else m z)->w.grownBy w' (some b)->wpList Tryz.prog ops Q rest (a.put o.dst undef) w'):wpList Tryz.prog ops Q (o::rest) a w:=
 wpList_put (K:=jQ) (V:=fU) hg uT Tryz.underlying117 h SH hm (Nat.le_trans hx maxLen_val) yT (y:=r) trivial hve (fun w' h1 h2=>hK w' (by exact h1.ext (fun z=>by by_cases hz:z=x<;>simp[hz])) h2)
theorem knownOf_cons(l:List bA)(y:bA):(fun z=>if z=y then some true else mK l z)=mK (y::l):=by
 funext z;unfold mK;by_cases h:z=y
 ·subst h;simp
 have:decide (y=z)=false:=decide_eq_false (fun e=>h e.symm);simp only[h,if_false,List.any_cons,this,Bool.false_or]
theorem stepRight_any(s:Stp)(vf:Value)(w:World)(hv:Strs w vf s.src)(hto:s.out.size<=140737488355328):
  Calls Tryz.prog 105 #[.agg #[.int .i64 s.kind,vf,.string s.out,.bool s.sorted]] w fun e w'=>e=.returned (.bool (lH s))/\Below w.heap.size w w':=by
 obtain⟨kind,src,tn,sorted⟩:=s;simp only at hv hto ⊢
 have hC:∀W,Below w.heap.size w W->Calls Tryz.prog 173 #[vf,.func (.func 174) #[] #[]] W fun e w'=>e=.returned (.bool (src.any fun x=> !isName x))/\Below W.heap.size W w':=fun W hb=>
  containsFunc_str _ _ _ src vf W (hv.later hb) enters_isName (fun x hx W' vI=>by
   refine(right1_any x W' (strs_size hv hx)).mono ?_;rintro e w' ⟨rfl,rfl⟩
   exact⟨rfl,Below.refl _ _⟩)
 have hN:∀W,Calls Tryz.prog 172 #[.string tn] W fun e w'=>e=.returned (.bool (isName tn))/\W=w':=fun W=>isName_any tn W hto;obtain⟨a,c,hvv,-⟩:=hv;subst hvv;have HC:=zh hC;clear hC;have HN:=zh hN;clear hN
 have hR:lH ⟨kind,src,tn,sorted⟩=if(!isName tn||src.any fun x=> !isName x) then false else if kind=2 then decide (src.length<=60)
   else if kind=1 then decide (src.length<=60)&& !sorted else if kind=0\/kind=3\/kind=4\/kind=5 then decide (src.length=1)&& !sorted else false:=rfl
 have HR:=zh hR;clear hR;generalize lH ⟨kind,src,tn,sorted⟩=R at HR ⊢;generalize hi:isName tn=ni at HN HR ⊢;generalize ha:(src.any fun x=> !isName x)=na at HC HR ⊢;clear hi ha
 cases ni with
 |false=>
  clear HC;go_enter Tryz.func105,Tryz.ntmps105;go_wp2_with(go_at_call 172;refine(HN.out _).mono ?_;rintro e w' ⟨rfl,rfl⟩);go_ret;exact⟨aE SY,aB _ _⟩
 |true=>
  cases na with
  |true=>
   go_enter Tryz.func105,Tryz.ntmps105;go_wp2_with(first|(go_at_call 172;refine(HN.out _).mono ?_;rintro e w' ⟨rfl,rfl⟩)|(go_at_call 173;refine(HC.out _ (aB _ _)).mono ?_;rintro e w' ⟨rfl,vI⟩));go_ret;exact⟨aE SY,aA (aB _ _) vI⟩
  |false=>
   by_cases k2:kind=2
   ·subst k2;go_enter Tryz.func105,Tryz.ntmps105;go_wp2_with(first|(go_at_call 172;refine(HN.out _).mono ?_;rintro e w' ⟨rfl,rfl⟩)|(go_at_call 173;refine(HC.out _ (aB _ _)).mono ?_;rintro e w' ⟨rfl,vI⟩;obtain⟨I0,GA⟩:=bcell vI));go_ret;exact⟨aE (by rw[HR.out];simp;omega),aA (aB _ _) vI⟩
   by_cases k1:kind=1
   ·subst k1;go_enter Tryz.func105,Tryz.ntmps105;go_wp2_with(first|(go_at_call 172;refine(HN.out _).mono ?_;rintro e w' ⟨rfl,rfl⟩)|(go_at_call 173;refine(HC.out _ (aB _ _)).mono ?_;rintro e w' ⟨rfl,vI⟩;obtain⟨I0,GA⟩:=bcell vI));(all_goals go_ret);all_goals exact⟨aE (by rw[HR.out];simp;try omega),aA (aB _ _) vI⟩
   have HK2:=zh k2;have HK1:=zh k1;(have b2:(kind==2)=false:=by simpa using k2);(have b1:(kind==1)=false:=by simpa using k1);clear k2 k1;by_cases kx:kind=0\/kind=3\/kind=4\/kind=5
   ·have HKX:=zh kx;by_cases hl:src.length=1
    ·(have bl:(((src.length:Nat):Int)==1)=true:=by simp[hl]);have HL:=zh hl;clear hl;rcases kx with rfl|rfl|rfl|rfl
     all_goals
      clear b2 b1;go_enter Tryz.func105,Tryz.ntmps105;go_wp2_with(first|(go_at_call 172;refine(HN.out _).mono ?_;rintro e w' ⟨rfl,rfl⟩)|(go_at_call 173;refine(HC.out _ (aB _ _)).mono ?_;rintro e w' ⟨rfl,vI⟩;obtain⟨I0,GA⟩:=bcell vI));go_ret;exact⟨aE (by rw[HR.out,HL.out];rfl),aA (aB _ _) vI⟩
    have bl:(((src.length:Nat):Int)==1)=false:=SA;have HL:=zh hl;clear hl;rcases kx with rfl|rfl|rfl|rfl
    all_goals
     clear b2 b1;go_enter Tryz.func105,Tryz.ntmps105;go_wp2_with(first|(go_at_call 172;refine(HN.out _).mono ?_;rintro e w' ⟨rfl,rfl⟩)|(go_at_call 173;refine(HC.out _ (aB _ _)).mono ?_;rintro e w' ⟨rfl,vI⟩;obtain⟨I0,GA⟩:=bcell vI));go_ret;exact⟨aE (by rw[HR.out,decide_eq_false HL.out];rfl),aA (aB _ _) vI⟩
   have HKX:=zh kx;have b0:(kind==0)=false:=SA;have b3:(kind==3)=false:=SA;have b4:(kind==4)=false:=SA;have b5:(kind==5)=false:=SA;clear kx;go_enter Tryz.func105,Tryz.ntmps105;go_wp2_with(first|(go_at_call 172;refine(HN.out _).mono ?_;rintro e w' ⟨rfl,rfl⟩)|(go_at_call 173;refine(HC.out _ (aB _ _)).mono ?_;rintro e w' ⟨rfl,vI⟩;obtain⟨I0,GA⟩:=bcell vI));go_ret;exact⟨aE (by rw[HR.out,if_neg HK2.out,if_neg HK1.out,if_neg HKX.out];rfl),aA (aB _ _) vI⟩
end Go.Proofs.YtiionicikdnnpaaGreatDoor
