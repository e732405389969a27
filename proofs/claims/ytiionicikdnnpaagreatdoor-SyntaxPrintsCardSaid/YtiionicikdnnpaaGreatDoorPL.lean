/- Texts of this seat, joined. -/
import Derived.Test.YtiionicikdnnpaaGreatDoorPB
import Derived.Test.YtiionicikdnnpaaGreatDoorPE
set_option maxHeartbeats 800000
set_option linter.unusedVariables false
set_option linter.unusedSimpArgs false
set_option linter.constructorNameAsVariable false
namespace Go.Proofs.YtiionicikdnnpaaGreatDoor
open Go.RowKit
theorem T9{p:Prop}(h:p:=by
 cases a<;>go_wp2_with(first|(go_at_call 141;refine(h1.out _).mono ?_;rintro e w' ⟨rfl,rfl⟩)|(go_at_call 143;refine(h2.out _).mono ?_;rintro e w' ⟨rfl,rfl⟩));all_goals go_ret
 all_goals exact⟨aF hw.out.symm,rfl⟩):p:=h
theorem blank_any(c:UInt8)(w:World):Calls Tryz.prog 99 #[.int .u8 c.toNat] w fun e w'=>e=.returned (.bool (eU c))/\w'=w:=by
 go_enter Tryz.func99,Tryz.ntmps99
 go_wp2
 all_goals go_ret
 all_goals refine⟨aF ?_,rfl⟩
 all_goals unfold eU
 all_goals rw[Bool.eq_iff_iff]
 all_goals simp
 all_goals omega
theorem letter_any(c:UInt8)(w:World):Calls Tryz.prog 141 #[.int .u8 c.toNat] w fun e w'=>e=.returned (.bool (dV c))/\w'=w:=by
 go_enter Tryz.func141,Tryz.ntmps141
 go_wp2
 all_goals go_ret
 all_goals refine⟨aF ?_,rfl⟩
 all_goals unfold dV
 all_goals rw[Bool.eq_iff_iff]
 all_goals simp
 all_goals omega
theorem pI(c:UInt8)(w:World):Calls Tryz.prog 143 #[.int .u8 c.toNat] w fun e w'=>e=.returned (.bool (cE c))/\w'=w:=by
 go_enter Tryz.func143,Tryz.ntmps143
 go_wp2
 all_goals go_ret
 all_goals refine⟨aF ?_,rfl⟩
 all_goals unfold cE
 all_goals rw[Bool.eq_iff_iff]
 all_goals simp
 all_goals omega
theorem word1_any(c:UInt8)(w:World):Calls Tryz.prog 142 #[.int .u8 c.toNat] w fun e w'=>e=.returned (.bool (gW c))/\w'=w:=by
 have h1:=zh (letter_any c);have h2:=zh (pI c);have hw:=zh (show gW c=(dV c||cE c) from rfl);generalize dV c=a at h1 hw;generalize cE c=b at h2 hw;go_enter Tryz.func142,Tryz.ntmps142;exact T9
theorem lexnext1_any(c:UInt8)(w:World):Calls Tryz.prog 166 #[.int .u8 c.toNat] w fun e w'=>e=.returned (.bool (gW c))/\w'=w:=by
 have h1:=zh (letter_any c);have h2:=zh (pI c);have hw:=zh (show gW c=(dV c||cE c) from rfl);generalize dV c=a at h1 hw;generalize cE c=b at h2 hw;go_enter Tryz.func166,Tryz.ntmps166;exact T9
theorem spanN_hit{p:UInt8->Bool}:∀(l:List UInt8)(k:Nat),(∀x,x∈l.take k->p x=true)->k<=l.length->(∀x,l[k]? =some x->p x=false)->dW p l=k
 |[],k,_,h1,_=>by simp at h1;subst h1;rfl
 |x::l,0,_,_,h2=>by
  have:=h2 x rfl;simp[dW,this]
 |x::l,k+1,h0,h1,h2=>by
  have hx:=h0 x VY;have:=spanN_hit l k (fun y hy=>h0 y (by simp[hy])) (by simpa using h1) (fun y hy=>h2 y ZK);unfold dW at this ⊢;simp[hx,this]
theorem spanN_le(p:UInt8->Bool)(l:List UInt8):dW p l<=l.length:=(List.takeWhile_sublist _).length_le
theorem span_any(g:FuncId)(p:UInt8->Bool)(s:bA)(w:World)(hs:s.size<=140737488355328)
  (eg:∀args w,(callFunc g args).run Tryz.prog w=.ok (.enter g args) w)
  (hp:∀c w,Calls Tryz.prog g #[.int .u8 (UInt8.toNat c)] w fun e w'=>e=.returned (.bool (p c))/\w'=w):
  Calls Tryz.prog 98 #[.string s,.func (.func g) #[] #[]] w fun e w'=>e=.returned (.int .i64 (dW p s.data.toList))/\w=w':=by
 have HP:=zh hp;clear hp;go_enter Tryz.func98,Tryz.ntmps98;go_wp2_with fail;go_loop [5] (fun i=>∃k:Nat,k<=s.size/\i=.int .i64 k/\Hid (∀x,x∈s.data.toList.take k->p x=true)) (fun i=>s.size-(intOf i).toNat)
 case atStart=>exact⟨0,Nat.zero_le _,rfl,zh VY⟩
 case round=>
  obtain⟨k,hk,rfl,HA⟩:=hrel;by_cases pS:k<s.size
  ·have HX:Hid (s.data.toList[k]? =some s[k]):=zh (by rw[List.getElem?_eq_getElem (by simpa using pS)];rfl);have EU:=zh (HP.out s[k])
   cases hq:p s[k] with
   |true=>
    rw[hq] at EU;have HQ:=zh hq;clear hq;go_wp2_with(go_at_fn g;refine(EU.out _).mono ?_;rintro e w' ⟨rfl,rfl⟩)
    go_round
    case rel=>
     refine⟨k+1,VS,WH,zh fun x hx=>?_⟩;rw[take_snoc s k pS,List.mem_append] at hx;rcases hx with hx|hx
     ·exact HA.out x hx
     simp at hx;rw[hx];exact HQ.out
    case measure=>simp[intOf];omega
   |false=>
    rw[hq] at EU;have HQ:=zh hq;clear hq;go_wp2_with(go_at_fn g;refine(EU.out _).mono ?_;rintro e w' ⟨rfl,rfl⟩);go_ret;exact⟨ret_int (by rw[spanN_hit _ k HA.out (by simpa using hk) (fun x hx=>by rw[HX.out] at hx;cases hx;exact HQ.out)]),rfl⟩
  go_wp2_with fail;go_ret;exact⟨ret_int (by rw[spanN_hit _ k HA.out (by simpa using hk) (fun x hx=>by rw[List.getElem?_eq_none XJ] at hx;cases hx)]),rfl⟩
theorem enters_blank:∀args w,(callFunc 99 args).run Tryz.prog w=.ok (.enter 99 args) w:=enters_of Tryz.func99 VT rfl
theorem enters_digit:∀args w,(callFunc 143 args).run Tryz.prog w=.ok (.enter 143 args) w:=enters_of Tryz.func143 VT rfl
theorem enters_word1:∀args w,(callFunc 142 args).run Tryz.prog w=.ok (.enter 142 args) w:=enters_of Tryz.func142 VT rfl
theorem enters_lexnext1:∀args w,(callFunc 166 args).run Tryz.prog w=.ok (.enter 166 args) w:=enters_of Tryz.func166 VT rfl
theorem SC{p:Prop}(h:p:=by
 clear rY;go_enter Tryz.func167,Tryz.ntmps167;go_wp2_with(go_at_call 98;refine BF.out.mono ?_;rintro e w' ⟨rfl,rfl⟩);go_loop [4,31] (fun n i=>∃k:Nat,k<=s.size/\i=.int .i64 k/\n=.int .i64 (iB (s.data.toList.take k))) (fun _ i=>s.size-(intOf i).toNat)
 case atStart=>exact⟨0,Nat.zero_le _,rfl,rfl⟩
 case round=>
  obtain⟨k,hk,rfl,rfl⟩:=hrel;by_cases pS:k<s.size
  ·have HN:Hid (iB (s.data.toList.take (k+1))=10*iB (s.data.toList.take k)+(s[k].toNat-48)):=zh (by rw[take_snoc s k pS,decOf_snoc])
   have LY:48<=s[k].toNat/\s[k].toNat<=57:=by
    have:=List.all_eq_true.1 H1.out s[k] (by show s.data.toList[k]'(by simpa using pS)∈_;exact List.getElem_mem _);unfold cE at this;simpa using this
   have IU:=HD.out k hk;have MS:=HN.out;have hcv:(s[k].toNat:Int)-48=((s[k].toNat-48:Nat):Int):=VS;generalize iB (s.data.toList.take k)=n at HN IU MS ⊢;go_wp2_with fail
   go_round
   (case rel=>exact⟨k+1,VS,WH,by rw[HN.out];go_num⟩);case measure=>simp[intOf];omega
  have hk':k=s.size:=VS;subst hk';have B7:s.data.toList.take s.size=s.data.toList:=List.take_of_length_le VY;rw[B7];clear HD B7;generalize iB s.data.toList=n at HB xN ⊢;have hn:=HB.out;by_cases hm:(1099511627776:Int)<(n:Int)
  ·go_wp2_with fail;go_ret2;exact⟨by rw[xN.out,if_neg VS];rfl,rfl⟩
  go_wp2_with fail;go_ret2
  exact⟨by rw[xN.out,if_pos VS];rfl,rfl⟩):p:=h
theorem UE{p:Prop}(h:p:=by
 go_enter Tryz.func167,Tryz.ntmps167;go_wp2_with(go_at_call 98;refine BF.out.mono ?_;rintro e w' ⟨rfl,rfl⟩);go_ret2
 exact⟨by rw[HW.out,H1.out,H2.out,decide_eq_false (show ¬s.size<=13 by omega)];rfl,rfl⟩):p:=h
theorem mX{s:bA}(h:s.size=0):s.toList=[]:=by rw[Lib.toList_data];exact List.eq_nil_of_length_eq_zero XE
theorem hH(s:bA):s.size=s.data.toList.length:=VY
theorem toList_ne{s:bA}(h:0<s.size):¬s.toList=[]:=fun e=>by rw[Lib.toList_data] at e;rw[hH,e] at h;exact absurd h VY
theorem lG{s:bA}(h:0<s.size):∃r,s.data.toList=s[0]::r:=by
 cases hh:s.data.toList with
 |nil=>rw[hH,hh] at h;exact absurd h VY
 |cons c r=>
  refine⟨r,?_⟩;have:s[0]=s.data.toList[0]'(by rw[hh];simp):=rfl;rw[this];simp[hh]
theorem spanN_all{p:UInt8->Bool}:∀(l:List UInt8),decide (dW p l=l.length)=l.all p
 |[]=>rfl
 |x::l=>by
  have:=spanN_all (p:=p) l;unfold dW at this ⊢
  cases hx:p x with
  |false=>simp[hx]
  |true=>simp[hx];simpa using this
theorem nat_beq(a b:Nat):((a:Int)==(b:Int))=decide (a=b):=WX
theorem word_any(s:bA)(w:World)(hs:s.size<=140737488355328):Calls Tryz.prog 59 #[.string s] w fun e w'=>e=.returned (.bool (dL s))/\w=w':=by
 have BF:=zh (span_any 142 gW s w hs enters_word1 word1_any);by_cases h0:s.size=0
 ·have h1:=mX h0;have HW:Hid (dL s=false):=zh (by unfold dL;rw[<-Lib.toList_data,h1]);go_enter Tryz.func59,Tryz.ntmps59;go_wp2_with fail;go_ret;exact⟨aF HW.out.symm,rfl⟩
 have uQ:0<s.size:=VS;have h1:=toList_ne uQ;have hE:s.toList.isEmpty=false:=by cases hh:s.toList with|nil=>exact absurd hh h1|cons=>rfl
 obtain⟨r,hr⟩:=lG uQ
 have HW:Hid (dL s=(dV s[0]&&decide (s.size<=20)&&decide (dW gW s.data.toList=s.size))):=zh (by
  rw[show decide (dW gW s.data.toList=s.size)=s.data.toList.all gW by rw[hH s,spanN_all]];unfold dL;rw[hr])
 have HL:=zh (letter_any s[0] w);clear hr;generalize dV s[0]=a at HW HL
 cases a with
 |false=>
  go_enter Tryz.func59,Tryz.ntmps59;go_wp2_with(go_at_call 141;refine HL.out.mono ?_;rintro e w' ⟨rfl,rfl⟩);go_ret;exact⟨aF (by rw[HW.out];rfl),rfl⟩
 |true=>
  by_cases h20:(20:Int)<(s.size:Int)
  ·go_enter Tryz.func59,Tryz.ntmps59;go_wp2_with(go_at_call 141;refine HL.out.mono ?_;rintro e w' ⟨rfl,rfl⟩);go_ret;exact⟨aF (by rw[HW.out,decide_eq_false VS];rfl),rfl⟩
  go_enter Tryz.func59,Tryz.ntmps59;go_wp2_with(first|(go_at_call 141;refine HL.out.mono ?_;rintro e w' ⟨rfl,rfl⟩)|(go_at_call 98;refine BF.out.mono ?_;rintro e w' ⟨rfl,rfl⟩));go_ret;exact⟨aF (by rw[HW.out,decide_eq_true (show s.size<=20 by omega),nat_beq];rfl),rfl⟩
theorem beq_zero(s:bA):(s.toList==[48])=decide (s=⟨#[48]⟩):=by
 have h:(⟨#[48]⟩:bA).toList=[48]:=by rw[Lib.toList_data]
 rw[Bool.eq_iff_iff];simp only[beq_iff_eq,decide_eq_true_eq];constructor
 ·intro e;rw[Lib.toList_data] at e;cases s with|mk d=>cases d;simp at e;subst e;rfl
 intro e;rw[e,h]
theorem decOf_snoc(l:List UInt8)(c:UInt8):iB (l++[c])=10*iB l+(c.toNat-48):=by unfold iB;rw[List.foldl_append];rfl
theorem decOf_go:∀(l:List UInt8)(n k:Nat),l.all cE=true->n<10 ^ k->l.foldl (fun n c=>10*n+(c.toNat-48)) n<10 ^ (k+l.length)
 |[],n,k,_,h=>XE
 |c::l,n,k,ha,h=>by
  simp only[List.all_cons,Bool.and_eq_true] at ha;have hc:c.toNat<=57:=by have:=ha.1;unfold cE at this;simp at this;omega
  have:=decOf_go l (10*n+(c.toNat-48)) (k+1) ha.2 (by rw[Nat.pow_succ];omega);simp only[List.foldl_cons,List.length_cons];rw[show k+(l.length+1)=k+1+l.length by omega];exact this
theorem decOf_lt(l:List UInt8)(h:l.all cE=true):iB l<10 ^ l.length:=by
 have:=decOf_go l 0 0 h VU;simpa[iB] using this
theorem all_take{p:UInt8->Bool}{l:List UInt8}(h:l.all p=true)(k:Nat):(l.take k).all p=true:=by
 rw[List.all_eq_true] at h ⊢;exact fun x hx=>h x (List.mem_of_mem_take hx)
abbrev tokV(k:Int)(t:bA)(n pos:Int):Value:=oBx18 k t n pos
def numV(r:Option Nat):Value:=match r with|some n=>.tuple #[.int .i64 n,.bool true]|none=>.tuple #[.int .i64 0,.bool false]
theorem number_any(s:bA)(w:World)(hs:s.size<=140737488355328):Calls Tryz.prog 167 #[.string s] w fun e w'=>e=.returned (numV (dQ s))/\w=w':=by
 have BF:=zh (span_any 143 cE s w hs enters_digit pI);by_cases h0:s.size=0
 ·have h1:=mX h0;have HW:Hid (dQ s=none):=zh (by unfold dQ;rw[<-Lib.toList_data,h1]);go_enter Tryz.func167,Tryz.ntmps167;go_wp2_with fail;go_ret2;exact⟨by rw[HW.out];rfl,rfl⟩
 have uQ:0<s.size:=VS;have h1:=toList_ne uQ;obtain⟨r,hr⟩:=lG uQ;have hz:=beq_zero s
 have HA:Hid (decide (dW cE s.data.toList=s.size)=s.data.toList.all cE):=zh (by
  rw[hH s,spanN_all])
 have HW:Hid (dQ s=if s.data.toList.all cE&& !(decide (s[0].toNat=48)&&decide (s.size≠1))&&decide (s.size<=13)&&decide (iB s.data.toList<=1099511627776) then some (iB s.data.toList) else none):=zh (by
  unfold dQ;rw[hr])
 clear hr;have hE:s.toList.isEmpty=false:=by cases hh:s.toList with|nil=>exact absurd hh h1|cons=>rfl
 have PY:∀v,(s.data.toList.all cE&& !(decide (s[0].toNat=48)&&decide (s.size≠1))&&decide (s.size<=13))=false->v=numV none->v=numV (dQ s):=by
  intro v h e;rw[HW.out,h,e];rfl
 by_cases g1:dW cE s.data.toList=s.size
 ·have H1:Hid (s.data.toList.all cE=true):=zh (by rw[<-HA.out,decide_eq_true g1]);rw[g1] at BF;by_cases g2:s[0].toNat=48/\s.size≠1
  ·have hc:(s[0].toNat:Int)=48:=VS;(have rY:¬s.toList=[48]:=fun e=>by rw[Lib.toList_data] at e;have:=hH s;rw[e] at this;exact g2.2 (by simpa using this));have g:=zh g2;clear g2 hz;go_enter Tryz.func167,Tryz.ntmps167;go_wp2_with(go_at_call 98;refine BF.out.mono ?_;rintro e w' ⟨rfl,rfl⟩);go_ret2;exact⟨by rw[HW.out,H1.out,decide_eq_true g.out.1,decide_eq_true g.out.2];rfl,rfl⟩
  have rY:(s[0].toNat:Int)=48->s.toList=[48]:=by
   intro e;have e1:s.size=1:=VS;obtain⟨r,hr⟩:=lG uQ;(have e2:r=[]:=by have:=hH s;rw[hr] at this;simp at this;exact List.eq_nil_of_length_eq_zero VS);rw[Lib.toList_data,hr,e2];congr 1;exact UInt8.toNat_inj.1 (by rw[show(48:UInt8).toNat=48 from rfl];omega)
  have H2:Hid ((!(decide (s[0].toNat=48)&&decide (s.size≠1)))=true):=zh (by
   rw[Bool.not_eq_true',Bool.and_eq_false_iff,decide_eq_false_iff_not,decide_eq_false_iff_not];omega)
  clear hz g2;by_cases g3:(13:Int)<(s.size:Int)
  ·by_cases hc:(s[0].toNat:Int)=48
   ·have:=rY hc;exact UE
   clear rY;exact UE
  have tT:(s.size:Int)<=13:=VS;have HB:Hid (iB s.data.toList<10 ^ 13):=zh (Nat.lt_of_lt_of_le (decOf_lt _ H1.out) (Nat.pow_le_pow_right VU (by rw[<-hH];omega)))
  have HD:∀k,k<=s.size->iB (s.data.toList.take k)<10 ^ 13:=fun k hk=>
   Nat.lt_of_lt_of_le (decOf_lt _ (all_take H1.out k)) (Nat.pow_le_pow_right VU (by rw[List.length_take];omega))
  have HD:=zh HD
  have xN:Hid (dQ s=if iB s.data.toList<=1099511627776 then some (iB s.data.toList) else none):=zh (by
   rw[HW.out,H1.out,H2.out,decide_eq_true (show s.size<=13 by omega)];simp)
  clear HW PY;by_cases hc:(s[0].toNat:Int)=48
  ·have zV:=rY hc;(have EP:(s.toList==[48])=true:=by rw[zV];rfl);exact SC
  have tJ:((s[0].toNat:Int)==48)=false:=by rw[beq_eq_false_iff_ne];exact hc
  exact SC
 have H1:Hid (s.data.toList.all cE=false):=zh (by rw[<-HA.out,decide_eq_false g1]);have g1':((dW cE s.data.toList:Int)==(s.size:Int))=false:=V7;go_enter Tryz.func167,Tryz.ntmps167;go_wp2_with(go_at_call 98;refine BF.out.mono ?_;rintro e w' ⟨rfl,rfl⟩);go_ret2;exact⟨by rw[HW.out,H1.out];rfl,rfl⟩
theorem take_no{α:Type}{p:α->Bool}{l:List α}{k:Nat}{x:α}(hx:l[k]? =some x)(hp:p x=false)(hno:∀y,y∈l.take k->p y=false):∀y,y∈l.take (k+1)->p y=false:=by
 intro y hy;rw[List.take_add_one,List.mem_append] at hy;rcases hy with hy|hy
 ·exact hno y hy
 rw[hx] at hy;simp at hy;rw[hy];exact hp
theorem jY(s:bA)(i:Nat):(hI s i).size=s.size-i:=by unfold hI;rw[ByteArray.size_extract];omega
theorem headB_size'(s:bA)(n:Nat)(h:n<=s.size):(jN s n).size=n:=by unfold jN;rw[ByteArray.size_extract];omega
theorem spanN_pos{p:UInt8->Bool}{s:bA}(uQ:0<s.size)(hp:p s[0]=true):1<=dW p s.data.toList:=by
 obtain⟨r,hr⟩:=lG uQ;rw[hr];unfold dW;simp[hp]
theorem signs_size:∀x,x∈eZ->1<=x.size/\x.size<=2:=by
 intro x hx;simp only[eZ,List.mem_cons,List.not_mem_nil,or_false] at hx;rcases hx with h|h|h|h|h|h|h|h|h|h|h|h|h|h<;>subst h<;>decide
theorem nextTok_ok{s:bA}(uQ:0<s.size){k:Int}{t:bA}{n:Int}(h:gC s=.ok (k,t,n)):k≠3/\1<=t.size/\t.size<=s.size:=by
 obtain⟨r,hr⟩:=lG uQ
 have hN:gC s=if dV s[0] then(if dL (jN s (dW gW s.data.toList)) then .ok (0,jN s (dW gW s.data.toList),0) else .error 12)
  else if cE s[0] then(match dQ (jN s (dW cE s.data.toList)) with
   |some n=>.ok (1,jN s (dW cE s.data.toList),n)
   |none=>.error 3)
  else match eZ.find? (mP s) with
   |some x=>.ok (2,x,0)
   |none=>.error 10:=by unfold gC;rw[hr];rfl
 rw[hN] at h;clear hN hr;have AO:∀p,dW p s.data.toList<=s.size:=fun p=>by rw[hH];exact spanN_le _ _
 split at h
 ·rename_i hl;split at h
  ·(injection h with h;injection h with h1 h2;injection h2 with h2 h3);subst h1 h2;rw[headB_size' _ _ (AO _)];exact⟨VU,spanN_pos uQ (by unfold gW;rw[hl];rfl),AO _⟩
  cases h
 split at h
 ·rename_i hd;split at h
  ·(injection h with h;injection h with h1 h2;injection h2 with h2 h3);subst h1 h2;rw[headB_size' _ _ (AO _)];exact⟨VU,spanN_pos uQ hd,AO _⟩
  cases h
 split at h
 ·rename_i x hx;injection h with h;injection h with h1 h2;injection h2 with h2 h3
  subst h1 h2;have h1:=signs_size _ (List.mem_of_find?_eq_some hx);have h2:=List.find?_some hx;refine⟨VU,h1.1,?_⟩;have:=(List.isPrefixOf_iff_prefix.1 h2).length_le;rw[hH,hH s];exact this
 cases h
theorem nextTok_err{s:bA}{e:Int}(h:gC s=.error e):e≠0:=by
 unfold gC at h;split at h
 ·cases h;decide
 split at h
 ·split at h
  ·cases h
  cases h;decide
 split at h
 ·split at h
  ·cases h
  cases h;decide
 split at h
 ·cases h
 cases h;decide
structure TokOk (s:bA) (l:List Tok):Prop where
 pos:0<l.length
 len:l.length<=s.size+1
 last:∀(k:Nat)(t:Tok),l[k]? =some t->t.kind≠3->k+1<l.length
 size:∀(t:Tok),t∈l->t.text.size<=s.size
theorem TokOk.of{s:bA}{out:List Tok}{p:Int}(h1:out.length<=s.size)(h2:∀t,t∈out->t.kind≠3/\t.text.size<=s.size):TokOk s (out++[⟨3,⟨#[]⟩,0,p⟩]):=by
 refine⟨VY,XJ,fun k t hk pP=>?_,fun t ht=>?_⟩
 ·have pS:=(Yb.1 hk).1;rw[List.length_append,List.length_singleton] at pS ⊢;by_cases GV:k<out.length
  ·omega
  rw[List.getElem?_append_right VS,show k-out.length=0 by omega] at hk;cases hk;exact absurd rfl pP
 rcases List.mem_append.1 ht with h|h
 ·exact(h2 t h).2
 rw[List.mem_singleton.1 h];exact Nat.zero_le _
section
variable {s:bA} {f i:Nat} {out:List Tok}
theorem lexFrom_end(h:i+dW eU (hI s i).data.toList=s.size):iE s (f+1) i out=.ok (out++[⟨3,⟨#[]⟩,0,s.size⟩]):=by rw[iE,if_pos h]
theorem lexFrom_bad{e:Int}(h:¬i+dW eU (hI s i).data.toList=s.size)(hn:gC (hI s (i+dW eU (hI s i).data.toList))=.error e):
  iE s (f+1) i out=.error ((i+dW eU (hI s i).data.toList:Nat),e):=by rw[iE,if_neg h,hn]
theorem lexFrom_on{k n:Int}{t:bA}(h:¬i+dW eU (hI s i).data.toList=s.size)(hn:gC (hI s (i+dW eU (hI s i).data.toList))=.ok (k,t,n)):
  iE s (f+1) i out=iE s f (i+dW eU (hI s i).data.toList+t.size) (out++[⟨k,t,n,(i+dW eU (hI s i).data.toList:Nat)⟩]):=by rw[iE,if_neg h,hn]
end
end Go.Proofs.YtiionicikdnnpaaGreatDoor
namespace Go.Proofs.YtiionicikdnnpaaGreatDoor
open Go.RowKit
def encFil(_:World)(f:Fil)(cs:List Value):Prop:=cs=[.string f.name,.string f.text]/\f.name.size<=140737488355328/\f.text.size<=140737488355328
def Fils(w:World)(v:Value)(l:List Fil):Prop:=Row 2 encFil w v l
theorem Fils.later{w w':World}{v:Value}{l:List Fil}(hb:Below w.heap.size w w')(h:Fils w v l):Fils w' v l:=Row.later hb (fun _ _ h=>h) h
theorem Fils.cases{w:World}{v:Value}{l:List Fil}(h:Fils w v l):
  (l=[]/\∃a c,v=.slice a 0 c)\/(∃b o c,v=.slice (some ⟨b,o,none⟩) l.length c/\0<l.length/\l.length<=c/\c<=9223372036854775807/\b<w.heap.size/\
   ∀i f,l[i]? =some f->w.cell? ⟨b,o+i*2,none⟩=some (.string f.name)/\w.cell? ⟨b,o+i*2+1,none⟩=some (.string f.text)/\f.name.size<=140737488355328/\f.text.size<=140737488355328):=by
 rcases Row.cases h with h|⟨b,o,c,hv,h0,h1,h2,hb,hc⟩
 ·exact .inl h
 refine .inr ⟨b,o,c,hv,h0,h1,h2,hb,fun i x hx=>?_⟩;obtain⟨cs,⟨e,hs⟩,-,hj⟩:=hc i x hx;exact⟨hj 0 (.string x.name) (by rw[e];rfl),hj 1 (.string x.text) (by rw[e];rfl),hs⟩
theorem strs_slice{w:World}{v:Value}{l:List bA}(h:Strs w v l):∃a c,v=.slice a l.length c:=by
 obtain⟨a,c,hv,-⟩:=h;exact⟨a,c,hv⟩
theorem toList_eq(s:bA):s.toList=s.data.toList:=Lib.toList_data s
theorem eE(a b:bA):(a.toList==b.toList)=decide (a=b):=by
 rw[toList_eq,toList_eq,Bool.eq_iff_iff];simp only[beq_iff_eq,decide_eq_true_eq];exact⟨fun h=>bytes_ext h,fun h=>by rw[h]⟩
noncomputable def mL (l:List bA) (x:bA):Option Bool:=if l.any (fun y=>decide (y=x)) then some true else none
theorem knownOf_getD(l:List bA)(x:bA):(mL l x).getD false=l.any (fun y=>decide (y=x)):=by
 unfold mL;cases h:l.any (fun y=>decide (y=x))<;>simp
theorem zero_bool(w:World):(zeroValue 4).run Tryz.prog w=.ok (.bool false) w:=by kernel_rfl
noncomputable def jC:KeyC Tryz.prog 9 bA:=strKey Tryz.underlying9
noncomputable def fG:ValC Tryz.prog 4 Bool:=boolVal Tryz.underlying4 zero_bool
theorem maxLen_val:(140737488355328:Nat)<=maxLen:=by decide
theorem cH{ops:Array Oper}{rest:List Oper}{o:Oper}{a:Act}{Q:Exit->Act->World->Prop}{w:World}{b n:Nat}{m:bA->Option Bool}(h:bQ jC fG w b n m)
  {x:bA} (hx:x.size<=140737488355328) {r:Bool} (hr:(m x).getD false=r) {mo xo:Operand} (hg:o.guard=none) (vT:o.op=Op.lookup 117 mo xo false) (hm:a.eval mo=.map (some b)) (zI:a.eval xo=.string x)
  (hK:wpList Tryz.prog ops Q rest (a.put o.dst (.bool r)) w):wpList Tryz.prog ops Q (o::rest) a w:=
 wpList_look (K:=jC) (V:=fG) hg vT Tryz.underlying117 h hm (Nat.le_trans hx maxLen_val) zI (by subst hr;exact hK)
theorem lI{ops:Array Oper}{rest:List Oper}{o:Oper}{a:Act}{Q:Exit->Act->World->Prop}{w:World}{b n:Nat}{m:bA->Option Bool}(h:bQ jC fG w b n m)(hn:n<9223372036854775807)
  {x:bA} (hx:x.size<=140737488355328) {r:Bool} {mo xo vo:Operand} (hg:o.guard=none) (vT:o.op=Op.mapUpdate 117 mo xo vo) (hm:a.eval mo=.map (some b)) (zI:a.eval xo=.string x) (hve:a.eval vo=.bool r)
  (hK:∀w',bQ jC fG w' b (n+1) (fun z=>if z=x then some r else m z)->w.grownBy w' (some b)->wpList Tryz.prog ops Q rest (a.put o.dst undef) w'):wpList Tryz.prog ops Q (o::rest) a w:=
 wpList_put (K:=jC) (V:=fG) hg vT Tryz.underlying117 h (by unfold maxLen;omega) hm (Nat.le_trans hx maxLen_val) zI (y:=r) trivial hve (fun w' h1 h2=>hK w' (by exact h1.ext (fun z=>by by_cases hz:z=x<;>simp[hz])) h2)
theorem knownOf_cons(l:List bA)(y:bA):(fun z=>if z=y then some true else mL l z)=mL (y::l):=by
 funext z;unfold mL;by_cases h:z=y
 ·subst h;simp
 have:decide (y=z)=false:=decide_eq_false (fun e=>h e.symm);simp only[h,if_false,List.any_cons,this,Bool.false_or]
end Go.Proofs.YtiionicikdnnpaaGreatDoor
