/- Texts of this seat, joined. -/
import Derived.Deep.MidRow
import Derived.Test.YtacgopankhpnbaaGreatDoorKH
import Derived.Test.YtacgopankhpnbaaGreatDoorShelf
namespace Go.Proofs.YtacgopankhpnbaaGreatDoor
set_option maxHeartbeats 800000
set_option maxRecDepth 100000
open Go.RowKit
theorem sS{p:Prop}(h:p:=by
 rw[hw] at HW HN;have HW2:=HW;rw[HH.out] at HW2;go_enter Tryz.func129,Tryz.ntmps129;go_wp2_with(first|(go_at_call 179;refine(HL.out _).mono ?_;rintro e w' ⟨rfl,rfl⟩)|(go_at_call 181;refine(HD.out _).mono ?_;rintro e w' ⟨rfl,rfl⟩)|(go_at_call 127;refine HS.out.mono ?_;rintro e w' ⟨rfl,rfl⟩)|(go_at_call 183;refine(HW2.out _).mono ?_;rintro e w' ⟨rfl,rfl⟩;simp only[numV]))
 refine bodyPost_ret (v:=oN (gT s)) (by simp[HN.out,oN,HH.out,results,Tryz.results129,go_sem]) rfl ⟨rfl,aA _ _⟩):p:=h
theorem tE{p:Prop}(h:p:=by
 rw[hw] at HW HN;have HW2:=HW;rw[HH.out] at HW2;go_enter Tryz.func129,Tryz.ntmps129;go_wp2_with(first|(go_at_call 179;refine(HL.out _).mono ?_;rintro e w' ⟨rfl,rfl⟩)|(go_at_call 127;refine HS.out.mono ?_;rintro e w' ⟨rfl,rfl⟩)|(go_at_call 182;refine(HW2.out _).mono ?_;rintro e w' ⟨rfl,rfl⟩))
 refine bodyPost_ret (v:=oN (gT s)) (by simp[HN.out,oN,HH.out,results,Tryz.results129,go_sem]) rfl ⟨rfl,aA _ _⟩):p:=h
def oN:Except Int (Int×ByteArray×Int)->Value
 | .error e=>.tuple #[tokV 0 ⟨#[]⟩ 0 0,.int .i64 e]
 | .ok (k,t,n)=>.tuple #[tokV k t n 0,.int .i64 0]
def SignsAt(w:World):Prop:=∀i x,gJ[i]? =some x->w.cell? ⟨1,i,none⟩=some (.string x)
theorem SignsAt.later{w w':World}(h:SignsAt w)(hb:Below w.heap.size w w'):SignsAt w':=fun i x hx=>aC hb (h i x hx)
theorem headB_size(s:ByteArray)(n:Nat):(kJ s n).size<=s.size:=by unfold kJ;rw[ByteArray.size_extract];omega
abbrev signsV:Value:=.agg (gJ.map Value.string).toArray
theorem signs_index(w:World):∀(k:Nat)(x:ByteArray),gJ[k]? =some x->(Instr.index 250 signsV (.int .i64 (k:Int))).run Tryz.prog w=.ok (.string x) w
 |0,_,h=>xF
 |1,_,h=>xF
 |2,_,h=>xF
 |3,_,h=>xF
 |4,_,h=>xF
 |5,_,h=>xF
 |6,_,h=>xF
 |7,_,h=>xF
 |8,_,h=>xF
 |9,_,h=>xF
 |10,_,h=>xF
 |11,_,h=>xF
 |12,_,h=>xF
 |13,_,h=>xF
 |k+14,x,h=>by simp[gJ] at h
theorem find_hit{α:Type}{p:α->Bool}:∀(l:List α)(k:Nat)(x:α),l[k]? =some x->p x=true->(∀y,y∈l.take k->p y=false)->l.find? p=some x
 |[],_,_,h,_,_=>yL
 |y::l,0,x,h,hp,_=>by simp at h;subst h;simp[List.find?,hp]
 |y::l,k+1,x,h,hp,hn=>by
  have h1:=hn y vZ;simp only[List.find?,h1];exact find_hit l k x xL hp (fun z hz=>hn z (by simp[hz]))
theorem find_miss{α:Type}{p:α->Bool}{l:List α}(h:∀y,y∈l->p y=false):l.find? p=none:=by
 rw[List.find?_eq_none];intro x hx;simp[h x hx]
theorem lexnext_any(s:ByteArray)(w:World)(hs:s.size<=140737488355328)(hpos:0<s.size)(hg:SignsAt w):
  Calls Tryz.prog 129 #[.string s] w fun e w'=>e=.returned (oN (gT s))/\Below w.heap.size w w':=by
 obtain⟨r,hr⟩:=oA hpos
 have HN:Hid (gT s=if jM s[0] then(if kX (kJ s (dU lE s.data.toList)) then .ok (0,kJ s (dU lE s.data.toList),0) else .error 12)
  else if dL s[0] then(match jV (kJ s (dU dL s.data.toList)) with
   |some n=>.ok (1,kJ s (dU dL s.data.toList),n)
   |none=>.error 3)
  else match gJ.find? (nS s) with
   |some x=>.ok (2,x,0)
   |none=>.error 10):=zh (by unfold gT;rw[hr];rfl)
 clear hr;have HL:=zh (letter_any s[0]);have HD:=zh (qP s[0]);generalize dL s[0]=db at HN HD
 cases hl:jM s[0] with
 |true=>
  rw[hl] at HL HN;have hle:=spanN_le lE s.data.toList;rw[<-iM] at hle;have HS:=zh (span_any 180 lE s (w.alloc (.cells #[.int .i64 0,.string ByteArray.empty,.int .i64 0,.int .i64 0] 201)) hs enters_lexnext1 lexnext1_any);have HW:=zh (fun w=>word_any (kJ s (dU lE s.data.toList)) w (Nat.le_trans (headB_size s _) hs));generalize dU lE s.data.toList=n at HN hle HS HW;have HH:=zh (show kJ s n=s.extract 0 n from rfl);clear hl
  cases hw:kX (kJ s n) with
  |true=>
   exact tE
  |false=>
   exact tE
 |false=>
  rw[hl] at HL HN;clear hl
  cases db with
  |true=>
   have hle:=spanN_le dL s.data.toList;rw[<-iM] at hle;have HS:=zh (span_any 181 dL s (w.alloc (.cells #[.int .i64 0,.string ByteArray.empty,.int .i64 0,.int .i64 0] 201)) hs enters_digit qP);have HW:=zh (fun w=>number_any (kJ s (dU dL s.data.toList)) w (Nat.le_trans (headB_size s _) hs));generalize dU dL s.data.toList=n at HN hle HS HW;have HH:=zh (show kJ s n=s.extract 0 n from rfl)
   cases hw:jV (kJ s n) with
   |some m=>
    exact sS
   |none=>
    exact sS
  |false=>
   have hr:(w.alloc (.cells #[.int .i64 0,.string ⟨#[]⟩,.int .i64 0,.int .i64 0] 201)).rangeAt 1 0 (gJ.map Value.string):=fun i v hv=>by
    rw[List.getElem?_map] at hv;obtain⟨x,hx,rfl⟩:=Option.map_eq_some_iff.1 hv;rw[Nat.zero_add];exact aC (aA _ _) (hg i x hx)
   go_enter Tryz.func129,Tryz.ntmps129;go_wp2_with(first|(go_at_call 179;refine(HL.out _).mono ?_;rintro e w' ⟨rfl,rfl⟩)|(go_at_call 181;refine(HD.out _).mono ?_;rintro e w' ⟨rfl,rfl⟩)|refine wpList_load_mid rfl 250 (.global 1) rfl 1 0 rfl (gJ.map Value.string) (.array 14 9) hr vU rfl vU ?_);have HX:Hid (∀(k:Nat)(x:ByteArray),gJ[k]? =some x->∀w,(Instr.index 250 (.agg (gJ.map Value.string).toArray) (.int .i64 (k:Int))).run Tryz.prog w=.ok (.string x) w):=zh (fun k x h w=>signs_index w k x h);have HF:=zh (fun(k:Nat)(h:∀y,y∈gJ.take k->nS s y=false)(x:ByteArray)(hx:gJ[k]? =some x)(hp:nS s x=true)=>find_hit gJ k x hx hp h);have HM:=zh (fun(h:∀y,y∈gJ->nS s y=false)=>find_miss (p:=nS s) h);have HT:Hid (gJ.length=14):=zh rfl;clear hr;generalize hv:(gJ.map Value.string).toArray=vv at HX ⊢;clear hv;generalize gJ=L at HX HF HM HN HT hg;(go_loop [44] (fun i=>∃k:Nat,k<=14/\i=.int .i64 k/\Hid (∀x,x∈L.take k->nS s x=false)) (fun i=>14-(intOf i).toNat));case atStart=>exact⟨0,Nat.zero_le _,rfl,zh vZ⟩
   case round=>
    obtain⟨k,hk,rfl,HA⟩:=hrel;by_cases hlt:k<14
    ·obtain⟨x,hx,-⟩:=getElem?_of_lt (l:=L) (k:=k) (by rw[HT.out];exact hlt);have hxr:=HX.out k x hx;have HK:=zh hx;clear hx
     cases hq:nS s x with
     |true=>
      have HQ:=zh hq;clear hq;go_wp2_with(go_at_call 184;refine(Tryz.strings_HasPrefix _ _ _).mono ?_;rintro e w' ⟨rfl,rfl⟩;rw[show Lib.hasPrefix s.data.toList x.data.toList=true from HQ.out]);refine bodyPost_ret (v:=oN (gT s)) (by simp[HN.out,HF.out k HA.out x HK.out HQ.out,oN,results,Tryz.results129,go_sem]) rfl ⟨rfl,aA _ _⟩
     |false=>
      have HQ:=zh hq;clear hq;go_wp2_with(go_at_call 184;refine(Tryz.strings_HasPrefix _ _ _).mono ?_;rintro e w' ⟨rfl,rfl⟩;rw[show Lib.hasPrefix s.data.toList x.data.toList=false from HQ.out])
      go_round
      (case rel=>exact⟨k+1,vT,wH,zh (take_no HK.out HQ.out HA.out)⟩);case measure=>simp[intOf];omega
    ·have hk':k=14:=vT;subst hk';go_wp2_with fail;refine bodyPost_ret (v:=oN (gT s)) (by simp[HN.out,HM.out (fun y hy=>HA.out y (by rw[List.take_of_length_le (by rw[HT.out];decide)];exact hy)),oN,results,Tryz.results129,go_sem]) rfl ⟨rfl,aA _ _⟩
end Go.Proofs.YtacgopankhpnbaaGreatDoor
