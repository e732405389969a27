/- Texts of this seat, joined. -/
import Derived.Test.YtiionicikdnnpaaGreatDoorCH
import Derived.Test.YtiionicikdnnpaaGreatDoorShelf
import Derived.Deep.MidRow
set_option maxHeartbeats 800000
set_option maxRecDepth 100000
set_option linter.unusedVariables false
set_option linter.unusedSimpArgs false
namespace Go.Proofs.YtiionicikdnnpaaGreatDoor
open Go.RowKit
theorem WB{p:Prop}(h:p:=by
 rw[hw] at HW HN;have BX:=HW;rw[HH.out] at BX;go_enter Tryz.func100,Tryz.ntmps100;go_wp2_with(first|(go_at_call 141;refine(HL.out _).mono ?_;rintro e w' ⟨rfl,rfl⟩)|(go_at_call 143;refine(HD.out _).mono ?_;rintro e w' ⟨rfl,rfl⟩)|(go_at_call 98;refine HS.out.mono ?_;rintro e w' ⟨rfl,rfl⟩)|(go_at_call 167;refine(BX.out _).mono ?_;rintro e w' ⟨rfl,rfl⟩;simp only[numV]))
 refine bodyPost_ret (v:=pB (fI s)) (by simp[HN.out,pB,HH.out,results,Tryz.results100,go_sem]) rfl ⟨rfl,aA _ _⟩):p:=h
theorem WL{p:Prop}(h:p:=by
 rw[hw] at HW HN;have BX:=HW;rw[HH.out] at BX;go_enter Tryz.func100,Tryz.ntmps100;go_wp2_with(first|(go_at_call 141;refine(HL.out _).mono ?_;rintro e w' ⟨rfl,rfl⟩)|(go_at_call 98;refine HS.out.mono ?_;rintro e w' ⟨rfl,rfl⟩)|(go_at_call 59;refine(BX.out _).mono ?_;rintro e w' ⟨rfl,rfl⟩))
 refine bodyPost_ret (v:=pB (fI s)) (by simp[HN.out,pB,HH.out,results,Tryz.results100,go_sem]) rfl ⟨rfl,aA _ _⟩):p:=h
def pB:Except Int (Int×bA×Int)->Value
 | .error e=>.tuple #[tokV 0 ⟨#[]⟩ 0 0,.int .i64 e]
 | .ok (k,t,n)=>.tuple #[tokV k t n 0,.int .i64 0]
def SignsAt(w:World):Prop:=∀i x,eM[i]? =some x->w.cell? ⟨0,i,none⟩=some (.string x)
theorem SignsAt.later{w w':World}(h:SignsAt w)(hb:Below w.heap.size w w'):SignsAt w':=fun i x hx=>aD hb (h i x hx)
theorem headB_size(s:bA)(n:Nat):(jK s n).size<=s.size:=by unfold jK;rw[ByteArray.size_extract];omega
abbrev signsV:Value:=.agg (eM.map Value.string).toArray
theorem signs_index(w:World):∀(k:Nat)(x:bA),eM[k]? =some x->(Instr.index 189 signsV (.int .i64 (k:Int))).run Tryz.prog w=.ok (.string x) w
 |0,_,h=>ZK
 |1,_,h=>ZK
 |2,_,h=>ZK
 |3,_,h=>ZK
 |4,_,h=>ZK
 |5,_,h=>ZK
 |6,_,h=>ZK
 |7,_,h=>ZK
 |8,_,h=>ZK
 |9,_,h=>ZK
 |10,_,h=>ZK
 |11,_,h=>ZK
 |12,_,h=>ZK
 |13,_,h=>ZK
 |k+14,x,h=>by simp[eM] at h
theorem find_hit{α:Type}{p:α->Bool}:∀(l:List α)(k:Nat)(x:α),l[k]? =some x->p x=true->(∀y,y∈l.take k->p y=false)->l.find? p=some x
 |[],_,_,h,_,_=>Z0
 |y::l,0,x,h,hp,_=>by simp at h;subst h;simp[List.find?,hp]
 |y::l,k+1,x,h,hp,hn=>by
  have h1:=hn y YR;simp only[List.find?,h1];exact find_hit l k x ZS hp (fun z hz=>hn z (by simp[hz]))
theorem find_miss{α:Type}{p:α->Bool}{l:List α}(h:∀y,y∈l->p y=false):l.find? p=none:=by
 rw[List.find?_eq_none];intro x hx;simp[h x hx]
theorem lexnext_any(s:bA)(w:World)(hs:s.size<=140737488355328)(vB:0<s.size)(hg:SignsAt w):
  Calls Tryz.prog 100 #[.string s] w fun e w'=>e=.returned (pB (fI s))/\Below w.heap.size w w':=by
 obtain⟨r,hr⟩:=oR vB
 have HN:Hid (fI s=if gF s[0] then(if eZ (jK s (dW kH s.data.toList)) then .ok (0,jK s (dW kH s.data.toList),0) else .error 12)
  else if cL s[0] then(match cZ (jK s (dW cL s.data.toList)) with
   |some n=>.ok (1,jK s (dW cL s.data.toList),n)
   |none=>.error 3)
  else match eM.find? (lA s) with
   |some x=>.ok (2,x,0)
   |none=>.error 10):=zh (by unfold fI;rw[hr];rfl)
 clear hr;have HL:=zh (letter_any s[0]);have HD:=zh (rH s[0]);generalize cL s[0]=db at HN HD
 cases hl:gF s[0] with
 |true=>
  rw[hl] at HL HN;have yM:=spanN_le kH s.data.toList;rw[<-jD] at yM;have HS:=zh (span_any 166 kH s (w.alloc (dT 0 ByteArray.empty 0 0)) hs enters_lexnext1 lexnext1_any);have HW:=zh (fun w=>word_any (jK s (dW kH s.data.toList)) w (Nat.le_trans (headB_size s _) hs));generalize dW kH s.data.toList=n at HN yM HS HW;have HH:=zh (show jK s n=s.extract 0 n from rfl);clear hl
  cases hw:eZ (jK s n) with
  |true=>
   exact WL
  |false=>
   exact WL
 |false=>
  rw[hl] at HL HN;clear hl
  cases db with
  |true=>
   have yM:=spanN_le cL s.data.toList;rw[<-jD] at yM;have HS:=zh (span_any 143 cL s (w.alloc (dT 0 ByteArray.empty 0 0)) hs enters_digit rH);have HW:=zh (fun w=>number_any (jK s (dW cL s.data.toList)) w (Nat.le_trans (headB_size s _) hs));generalize dW cL s.data.toList=n at HN yM HS HW;have HH:=zh (show jK s n=s.extract 0 n from rfl)
   cases hw:cZ (jK s n) with
   |some m=>
    exact WB
   |none=>
    exact WB
  |false=>
   have hr:(w.alloc (dT 0 ⟨#[]⟩ 0 0)).rangeAt 0 0 (eM.map Value.string):=fun i v hv=>by
    rw[List.getElem?_map] at hv;obtain⟨x,hx,rfl⟩:=Option.map_eq_some_iff.1 hv;rw[Nat.zero_add];exact aD (aA _ _) (hg i x hx)
   go_enter Tryz.func100,Tryz.ntmps100;go_wp2_with(first|(go_at_call 141;refine(HL.out _).mono ?_;rintro e w' ⟨rfl,rfl⟩)|(go_at_call 143;refine(HD.out _).mono ?_;rintro e w' ⟨rfl,rfl⟩)|refine wpList_load_mid rfl 189 (.global 0) rfl 0 0 rfl (eM.map Value.string) (.array 14 9) hr YN rfl YN ?_);have HX:Hid (∀(k:Nat)(x:bA),eM[k]? =some x->∀w,(Instr.index 189 (.agg (eM.map Value.string).toArray) (.int .i64 (k:Int))).run Tryz.prog w=.ok (.string x) w):=zh (fun k x h w=>signs_index w k x h);have HF:=zh (fun(k:Nat)(h:∀y,y∈eM.take k->lA s y=false)(x:bA)(hx:eM[k]? =some x)(hp:lA s x=true)=>find_hit eM k x hx hp h);have HM:=zh (fun(h:∀y,y∈eM->lA s y=false)=>find_miss (p:=lA s) h);have HT:Hid (eM.length=14):=zh rfl;clear hr;generalize hv:(eM.map Value.string).toArray=vv at HX ⊢;clear hv;generalize eM=L at HX HF HM HN HT hg;(go_loop [44] (fun i=>∃k:Nat,k<=14/\i=.int .i64 k/\Hid (∀x,x∈L.take k->lA s x=false)) (fun i=>14-(intOf i).toNat));case atStart=>exact⟨0,Nat.zero_le _,rfl,zh YR⟩
   case round=>
    obtain⟨k,hk,rfl,HA⟩:=hrel;by_cases rU:k<14
    ·obtain⟨x,hx,-⟩:=getElem?_of_lt (l:=L) (k:=k) (by rw[HT.out];exact rU);have hxr:=HX.out k x hx;have HK:=zh hx;clear hx
     cases hq:lA s x with
     |true=>
      have HQ:=zh hq;clear hq;go_wp2_with(go_at_call 168;refine(Tryz.strings_HasPrefix _ _ _).mono ?_;rintro e w' ⟨rfl,rfl⟩;rw[show Lib.hasPrefix s.data.toList x.data.toList=true from HQ.out]);refine bodyPost_ret (v:=pB (fI s)) (by simp[HN.out,HF.out k HA.out x HK.out HQ.out,pB,results,Tryz.results100,go_sem]) rfl ⟨rfl,aA _ _⟩
     |false=>
      have HQ:=zh hq;clear hq;go_wp2_with(go_at_call 168;refine(Tryz.strings_HasPrefix _ _ _).mono ?_;rintro e w' ⟨rfl,rfl⟩;rw[show Lib.hasPrefix s.data.toList x.data.toList=false from HQ.out])
      go_round
      (case rel=>exact⟨k+1,YM,YZ,zh (take_no HK.out HQ.out HA.out)⟩);case measure=>simp[intOf];omega
    have NJ:k=14:=YM;subst NJ;go_wp2_with fail;refine bodyPost_ret (v:=pB (fI s)) (by simp[HN.out,HM.out (fun y hy=>HA.out y (by rw[List.take_of_length_le (by rw[HT.out];decide)];exact hy)),pB,results,Tryz.results100,go_sem]) rfl ⟨rfl,aA _ _⟩
end Go.Proofs.YtiionicikdnnpaaGreatDoor
