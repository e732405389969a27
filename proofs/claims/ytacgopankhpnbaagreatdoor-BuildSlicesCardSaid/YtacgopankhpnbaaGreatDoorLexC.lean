/- Texts of this seat, joined. -/
import Derived.Test.YtacgopankhpnbaaGreatDoorSJ
import Derived.Test.YtacgopankhpnbaaGreatDoorShelf
import Derived.Deep.MidRow
set_option maxHeartbeats 800000
set_option maxRecDepth 100000
set_option linter.unusedVariables false
set_option linter.unusedSimpArgs false
namespace Go.Proofs.YtacgopankhpnbaaGreatDoor
open Go.RowKit
theorem TB{p:Prop}(h:p:=by
 rw[hw] at HW HN;have BF:=HW;rw[HH.out] at BF;go_enter Tryz.func129,Tryz.ntmps129;go_wp2_with(first|(go_at_call 179;refine(HL.out _).mono ?_;rintro e w' ⟨rfl,rfl⟩)|(go_at_call 181;refine(HD.out _).mono ?_;rintro e w' ⟨rfl,rfl⟩)|(go_at_call 127;refine HS.out.mono ?_;rintro e w' ⟨rfl,rfl⟩)|(go_at_call 183;refine(BF.out _).mono ?_;rintro e w' ⟨rfl,rfl⟩;simp only[numV]))
 refine bodyPost_ret (v:=nF (fU s)) (by simp[HN.out,nF,HH.out,results,Tryz.results129,go_sem]) rfl ⟨rfl,aA _ _⟩):p:=h
theorem TN{p:Prop}(h:p:=by
 rw[hw] at HW HN;have BF:=HW;rw[HH.out] at BF;go_enter Tryz.func129,Tryz.ntmps129;go_wp2_with(first|(go_at_call 179;refine(HL.out _).mono ?_;rintro e w' ⟨rfl,rfl⟩)|(go_at_call 127;refine HS.out.mono ?_;rintro e w' ⟨rfl,rfl⟩)|(go_at_call 182;refine(BF.out _).mono ?_;rintro e w' ⟨rfl,rfl⟩))
 refine bodyPost_ret (v:=nF (fU s)) (by simp[HN.out,nF,HH.out,results,Tryz.results129,go_sem]) rfl ⟨rfl,aA _ _⟩):p:=h
def nF:Except Int (Int×ByteArray×Int)->Value
 | .error e=>.tuple #[tokV 0 ⟨#[]⟩ 0 0,.int .i64 e]
 | .ok (k,t,n)=>.tuple #[tokV k t n 0,.int .i64 0]
def SignsAt(w:World):Prop:=∀i x,fO[i]? =some x->w.cell? ⟨1,i,none⟩=some (.string x)
theorem SignsAt.later{w w':World}(h:SignsAt w)(hb:Below w.heap.size w w'):SignsAt w':=fun i x hx=>aC hb (h i x hx)
theorem headB_size(s:ByteArray)(n:Nat):(jS s n).size<=s.size:=by unfold jS;rw[ByteArray.size_extract];omega
abbrev signsV:Value:=.agg (fO.map Value.string).toArray
theorem signs_index(w:World):∀(k:Nat)(x:ByteArray),fO[k]? =some x->(Instr.index 250 signsV (.int .i64 (k:Int))).run Tryz.prog w=.ok (.string x) w
 |0,_,h=>WD
 |1,_,h=>WD
 |2,_,h=>WD
 |3,_,h=>WD
 |4,_,h=>WD
 |5,_,h=>WD
 |6,_,h=>WD
 |7,_,h=>WD
 |8,_,h=>WD
 |9,_,h=>WD
 |10,_,h=>WD
 |11,_,h=>WD
 |12,_,h=>WD
 |13,_,h=>WD
 |k+14,x,h=>by simp[fO] at h
theorem find_hit{α:Type}{p:α->Bool}:∀(l:List α)(k:Nat)(x:α),l[k]? =some x->p x=true->(∀y,y∈l.take k->p y=false)->l.find? p=some x
 |[],_,_,h,_,_=>W9
 |y::l,0,x,h,hp,_=>by simp at h;subst h;simp[List.find?,hp]
 |y::l,k+1,x,h,hp,hn=>by
  have h1:=hn y VL;simp only[List.find?,h1];exact find_hit l k x WI hp (fun z hz=>hn z (by simp[hz]))
theorem find_miss{α:Type}{p:α->Bool}{l:List α}(h:∀y,y∈l->p y=false):l.find? p=none:=by
 rw[List.find?_eq_none];intro x hx;simp[h x hx]
theorem lexnext_any(s:ByteArray)(w:World)(hs:s.size<=140737488355328)(rL:0<s.size)(hg:SignsAt w):
  Calls Tryz.prog 129 #[.string s] w fun e w'=>e=.returned (nF (fU s))/\Below w.heap.size w w':=by
 obtain⟨r,hr⟩:=mX rL
 have HN:Hid (fU s=if iX s[0] then(if kC (jS s (dI kH s.data.toList)) then .ok (0,jS s (dI kH s.data.toList),0) else .error 12)
  else if dA s[0] then(match jE (jS s (dI dA s.data.toList)) with
   |some n=>.ok (1,jS s (dI dA s.data.toList),n)
   |none=>.error 3)
  else match fO.find? (mQ s) with
   |some x=>.ok (2,x,0)
   |none=>.error 10):=zh (by unfold fU;rw[hr];rfl)
 clear hr;have HL:=zh (letter_any s[0]);have HD:=zh (pH s[0]);generalize dA s[0]=db at HN HD
 cases hl:iX s[0] with
 |true=>
  rw[hl] at HL HN;have vF:=spanN_le kH s.data.toList;rw[<-gT] at vF;have HS:=zh (span_any 180 kH s (w.alloc (.cells #[.int .i64 0,.string ByteArray.empty,.int .i64 0,.int .i64 0] 201)) hs enters_lexnext1 lexnext1_any);have HW:=zh (fun w=>word_any (jS s (dI kH s.data.toList)) w (Nat.le_trans (headB_size s _) hs));generalize dI kH s.data.toList=n at HN vF HS HW;have HH:=zh (show jS s n=s.extract 0 n from rfl);clear hl
  cases hw:kC (jS s n) with
  |true=>
   exact TN
  |false=>
   exact TN
 |false=>
  rw[hl] at HL HN;clear hl
  cases db with
  |true=>
   have vF:=spanN_le dA s.data.toList;rw[<-gT] at vF;have HS:=zh (span_any 181 dA s (w.alloc (.cells #[.int .i64 0,.string ByteArray.empty,.int .i64 0,.int .i64 0] 201)) hs enters_digit pH);have HW:=zh (fun w=>number_any (jS s (dI dA s.data.toList)) w (Nat.le_trans (headB_size s _) hs));generalize dI dA s.data.toList=n at HN vF HS HW;have HH:=zh (show jS s n=s.extract 0 n from rfl)
   cases hw:jE (jS s n) with
   |some m=>
    exact TB
   |none=>
    exact TB
  |false=>
   have hr:(w.alloc (.cells #[.int .i64 0,.string ⟨#[]⟩,.int .i64 0,.int .i64 0] 201)).rangeAt 1 0 (fO.map Value.string):=fun i v hv=>by
    rw[List.getElem?_map] at hv;obtain⟨x,hx,rfl⟩:=Option.map_eq_some_iff.1 hv;rw[Nat.zero_add];exact aC (aA _ _) (hg i x hx)
   go_enter Tryz.func129,Tryz.ntmps129;go_wp2_with(first|(go_at_call 179;refine(HL.out _).mono ?_;rintro e w' ⟨rfl,rfl⟩)|(go_at_call 181;refine(HD.out _).mono ?_;rintro e w' ⟨rfl,rfl⟩)|refine wpList_load_mid rfl 250 (.global 1) rfl 1 0 rfl (fO.map Value.string) (.array 14 9) hr VH rfl VH ?_);have HX:Hid (∀(k:Nat)(x:ByteArray),fO[k]? =some x->∀w,(Instr.index 250 (.agg (fO.map Value.string).toArray) (.int .i64 (k:Int))).run Tryz.prog w=.ok (.string x) w):=zh (fun k x h w=>signs_index w k x h);have HF:=zh (fun(k:Nat)(h:∀y,y∈fO.take k->mQ s y=false)(x:ByteArray)(hx:fO[k]? =some x)(hp:mQ s x=true)=>find_hit fO k x hx hp h);have HM:=zh (fun(h:∀y,y∈fO->mQ s y=false)=>find_miss (p:=mQ s) h);have HT:Hid (fO.length=14):=zh rfl;clear hr;generalize hv:(fO.map Value.string).toArray=vv at HX ⊢;clear hv;generalize fO=L at HX HF HM HN HT hg;(go_loop [44] (fun i=>∃k:Nat,k<=14/\i=.int .i64 k/\Hid (∀x,x∈L.take k->mQ s x=false)) (fun i=>14-(intOf i).toNat));case atStart=>exact⟨0,Nat.zero_le _,rfl,zh VL⟩
   case round=>
    obtain⟨k,hk,rfl,HA⟩:=hrel;by_cases pT:k<14
    ·obtain⟨x,hx,-⟩:=getElem?_of_lt (l:=L) (k:=k) (by rw[HT.out];exact pT);have hxr:=HX.out k x hx;have HK:=zh hx;clear hx
     cases hq:mQ s x with
     |true=>
      have HQ:=zh hq;clear hq;go_wp2_with(go_at_call 184;refine(Tryz.strings_HasPrefix _ _ _).mono ?_;rintro e w' ⟨rfl,rfl⟩;rw[show Lib.hasPrefix s.data.toList x.data.toList=true from HQ.out]);refine bodyPost_ret (v:=nF (fU s)) (by simp[HN.out,HF.out k HA.out x HK.out HQ.out,nF,results,Tryz.results129,go_sem]) rfl ⟨rfl,aA _ _⟩
     |false=>
      have HQ:=zh hq;clear hq;go_wp2_with(go_at_call 184;refine(Tryz.strings_HasPrefix _ _ _).mono ?_;rintro e w' ⟨rfl,rfl⟩;rw[show Lib.hasPrefix s.data.toList x.data.toList=false from HQ.out])
      go_round
      (case rel=>exact⟨k+1,VG,VT,zh (take_no HK.out HQ.out HA.out)⟩);case measure=>simp[intOf];omega
    ·have KL:k=14:=VG;subst KL;go_wp2_with fail;refine bodyPost_ret (v:=nF (fU s)) (by simp[HN.out,HM.out (fun y hy=>HA.out y (by rw[List.take_of_length_le (by rw[HT.out];decide)];exact hy)),nF,results,Tryz.results129,go_sem]) rfl ⟨rfl,aA _ _⟩
end Go.Proofs.YtacgopankhpnbaaGreatDoor
