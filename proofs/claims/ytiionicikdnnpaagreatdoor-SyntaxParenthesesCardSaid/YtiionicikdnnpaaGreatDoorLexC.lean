/- Texts of this seat, joined. -/
import Derived.Test.YtiionicikdnnpaaGreatDoorNH
import Derived.Test.YtiionicikdnnpaaGreatDoorShelf
import Derived.Deep.MidRow
set_option maxHeartbeats 800000
set_option maxRecDepth 100000
set_option linter.unusedVariables false
set_option linter.unusedSimpArgs false
namespace Go.Proofs.YtiionicikdnnpaaGreatDoor
open Go.RowKit
theorem P1{p:Prop}(h:p:=by
 rw[hw] at HW HN;have zI:=HW;rw[HH.out] at zI;go_enter Tryz.func100,Tryz.ntmps100;go_wp2_with(first|(go_at_call 141;refine(HL.out _).mono ?_;rintro e w' ⟨rfl,rfl⟩)|(go_at_call 143;refine(HD.out _).mono ?_;rintro e w' ⟨rfl,rfl⟩)|(go_at_call 98;refine HS.out.mono ?_;rintro e w' ⟨rfl,rfl⟩)|(go_at_call 167;refine(zI.out _).mono ?_;rintro e w' ⟨rfl,rfl⟩;simp only[numV]))
 refine bodyPost_ret (v:=nG (eR s)) (by simp[HN.out,nG,HH.out,results,Tryz.results100,go_sem]) rfl ⟨rfl,aB _ _⟩):p:=h
theorem P7{p:Prop}(h:p:=by
 rw[hw] at HW HN;have zI:=HW;rw[HH.out] at zI;go_enter Tryz.func100,Tryz.ntmps100;go_wp2_with(first|(go_at_call 141;refine(HL.out _).mono ?_;rintro e w' ⟨rfl,rfl⟩)|(go_at_call 98;refine HS.out.mono ?_;rintro e w' ⟨rfl,rfl⟩)|(go_at_call 59;refine(zI.out _).mono ?_;rintro e w' ⟨rfl,rfl⟩))
 refine bodyPost_ret (v:=nG (eR s)) (by simp[HN.out,nG,HH.out,results,Tryz.results100,go_sem]) rfl ⟨rfl,aB _ _⟩):p:=h
def nG:Except Int (Int×bA×Int)->Value
 | .error e=>.tuple #[tokV 0 ⟨#[]⟩ 0 0,.int .i64 e]
 | .ok (k,t,n)=>.tuple #[tokV k t n 0,.int .i64 0]
def SignsAt(w:World):Prop:=∀i x,dU[i]? =some x->w.cell? ⟨0,i,none⟩=some (.string x)
theorem SignsAt.later{w w':World}(h:SignsAt w)(hb:Below w.heap.size w w'):SignsAt w':=fun i x hx=>aD hb (h i x hx)
theorem headB_size(s:bA)(n:Nat):(iJ s n).size<=s.size:=by unfold iJ;rw[ByteArray.size_extract];omega
abbrev signsV:Value:=.agg (dU.map Value.string).toArray
theorem signs_index(w:World):∀(k:Nat)(x:bA),dU[k]? =some x->(Instr.index 189 signsV (.int .i64 (k:Int))).run Tryz.prog w=.ok (.string x) w
 |0,_,h=>SN
 |1,_,h=>SN
 |2,_,h=>SN
 |3,_,h=>SN
 |4,_,h=>SN
 |5,_,h=>SN
 |6,_,h=>SN
 |7,_,h=>SN
 |8,_,h=>SN
 |9,_,h=>SN
 |10,_,h=>SN
 |11,_,h=>SN
 |12,_,h=>SN
 |13,_,h=>SN
 |k+14,x,h=>by simp[dU] at h
theorem find_hit{α:Type}{p:α->Bool}:∀(l:List α)(k:Nat)(x:α),l[k]? =some x->p x=true->(∀y,y∈l.take k->p y=false)->l.find? p=some x
 |[],_,_,h,_,_=>TP
 |y::l,0,x,h,hp,_=>by simp at h;subst h;simp[List.find?,hp]
 |y::l,k+1,x,h,hp,hn=>by
  have h1:=hn y R2;simp only[List.find?,h1];exact find_hit l k x TR hp (fun z hz=>hn z (by simp[hz]))
theorem find_miss{α:Type}{p:α->Bool}{l:List α}(h:∀y,y∈l->p y=false):l.find? p=none:=by
 rw[List.find?_eq_none];intro x hx;simp[h x hx]
theorem lexnext_any(s:bA)(w:World)(hs:s.size<=140737488355328)(sQ:0<s.size)(hg:SignsAt w):
  Calls Tryz.prog 100 #[.string s] w fun e w'=>e=.returned (nG (eR s))/\Below w.heap.size w w':=by
 obtain⟨r,hr⟩:=mX sQ
 have HN:Hid (eR s=if fT s[0] then(if eT (iJ s (cR jL s.data.toList)) then .ok (0,iJ s (cR jL s.data.toList),0) else .error 12)
  else if cF s[0] then(match cO (iJ s (cR cF s.data.toList)) with
   |some n=>.ok (1,iJ s (cR cF s.data.toList),n)
   |none=>.error 3)
  else match dU.find? (kB s) with
   |some x=>.ok (2,x,0)
   |none=>.error 10):=zh (by unfold eR;rw[hr];rfl)
 clear hr;have HL:=zh (letter_any s[0]);have HD:=zh (pJ s[0]);generalize cF s[0]=db at HN HD
 cases hl:fT s[0] with
 |true=>
  rw[hl] at HL HN;have zS:=spanN_le jL s.data.toList;rw[<-hZ] at zS;have HS:=zh (span_any 166 jL s (w.alloc (dI 0 ByteArray.empty 0 0)) hs enters_lexnext1 lexnext1_any);have HW:=zh (fun w=>word_any (iJ s (cR jL s.data.toList)) w (Nat.le_trans (headB_size s _) hs));generalize cR jL s.data.toList=n at HN zS HS HW;have HH:=zh (show iJ s n=s.extract 0 n from rfl);clear hl
  cases hw:eT (iJ s n) with
  |true=>
   exact P7
  |false=>
   exact P7
 |false=>
  rw[hl] at HL HN;clear hl
  cases db with
  |true=>
   have zS:=spanN_le cF s.data.toList;rw[<-hZ] at zS;have HS:=zh (span_any 143 cF s (w.alloc (dI 0 ByteArray.empty 0 0)) hs enters_digit pJ);have HW:=zh (fun w=>number_any (iJ s (cR cF s.data.toList)) w (Nat.le_trans (headB_size s _) hs));generalize cR cF s.data.toList=n at HN zS HS HW;have HH:=zh (show iJ s n=s.extract 0 n from rfl)
   cases hw:cO (iJ s n) with
   |some m=>
    exact P1
   |none=>
    exact P1
  |false=>
   have hr:(w.alloc (dI 0 ⟨#[]⟩ 0 0)).rangeAt 0 0 (dU.map Value.string):=fun i v hv=>by
    rw[List.getElem?_map] at hv;obtain⟨x,hx,rfl⟩:=Option.map_eq_some_iff.1 hv;rw[Nat.zero_add];exact aD (aB _ _) (hg i x hx)
   go_enter Tryz.func100,Tryz.ntmps100;go_wp2_with(first|(go_at_call 141;refine(HL.out _).mono ?_;rintro e w' ⟨rfl,rfl⟩)|(go_at_call 143;refine(HD.out _).mono ?_;rintro e w' ⟨rfl,rfl⟩)|refine wpList_load_mid rfl 189 (.global 0) rfl 0 0 rfl (dU.map Value.string) (.array 14 9) hr RZ rfl RZ ?_);have HX:Hid (∀(k:Nat)(x:bA),dU[k]? =some x->∀w,(Instr.index 189 (.agg (dU.map Value.string).toArray) (.int .i64 (k:Int))).run Tryz.prog w=.ok (.string x) w):=zh (fun k x h w=>signs_index w k x h);have HF:=zh (fun(k:Nat)(h:∀y,y∈dU.take k->kB s y=false)(x:bA)(hx:dU[k]? =some x)(hp:kB s x=true)=>find_hit dU k x hx hp h);have HM:=zh (fun(h:∀y,y∈dU->kB s y=false)=>find_miss (p:=kB s) h);have HT:Hid (dU.length=14):=zh rfl;clear hr;generalize hv:(dU.map Value.string).toArray=vv at HX ⊢;clear hv;generalize dU=L at HX HF HM HN HT hg;(go_loop [44] (fun i=>∃k:Nat,k<=14/\i=.int .i64 k/\Hid (∀x,x∈L.take k->kB s x=false)) (fun i=>14-(intOf i).toNat));case atStart=>exact⟨0,Nat.zero_le _,rfl,zh R2⟩
   case round=>
    obtain⟨k,hk,rfl,HA⟩:=hrel;by_cases qA:k<14
    ·obtain⟨x,hx,-⟩:=getElem?_of_lt (l:=L) (k:=k) (by rw[HT.out];exact qA);have hxr:=HX.out k x hx;have HK:=zh hx;clear hx
     cases hq:kB s x with
     |true=>
      have HQ:=zh hq;clear hq;go_wp2_with(go_at_call 168;refine(Tryz.strings_HasPrefix _ _ _).mono ?_;rintro e w' ⟨rfl,rfl⟩;rw[show Lib.hasPrefix s.data.toList x.data.toList=true from HQ.out]);refine bodyPost_ret (v:=nG (eR s)) (by simp[HN.out,HF.out k HA.out x HK.out HQ.out,nG,results,Tryz.results100,go_sem]) rfl ⟨rfl,aB _ _⟩
     |false=>
      have HQ:=zh hq;clear hq;go_wp2_with(go_at_call 168;refine(Tryz.strings_HasPrefix _ _ _).mono ?_;rintro e w' ⟨rfl,rfl⟩;rw[show Lib.hasPrefix s.data.toList x.data.toList=false from HQ.out])
      go_round
      (case rel=>exact⟨k+1,RY,SK,zh (take_no HK.out HQ.out HA.out)⟩);case measure=>simp[intOf];omega
    have MV:k=14:=RY;subst MV;go_wp2_with fail;refine bodyPost_ret (v:=nG (eR s)) (by simp[HN.out,HM.out (fun y hy=>HA.out y (by rw[List.take_of_length_le (by rw[HT.out];decide)];exact hy)),nG,results,Tryz.results100,go_sem]) rfl ⟨rfl,aB _ _⟩
end Go.Proofs.YtiionicikdnnpaaGreatDoor
