/- Texts of this seat, joined. -/
import Derived.Test.YtiionicikdnnpaaGreatDoorPL
import Derived.Test.YtiionicikdnnpaaGreatDoorShelf
import Derived.Deep.MidRow
set_option maxHeartbeats 800000
set_option maxRecDepth 100000
set_option linter.unusedVariables false
set_option linter.unusedSimpArgs false
set_option linter.constructorNameAsVariable false
namespace Go.Proofs.YtiionicikdnnpaaGreatDoor
open Go.RowKit
theorem TA{p:Prop}(h:p:=by
 rw[hw] at HW HN;have xN:=HW;rw[HH.out] at xN;go_enter Tryz.func100,Tryz.ntmps100;go_wp2_with(first|(go_at_call 141;refine(HL.out _).mono ?_;rintro e w' ⟨rfl,rfl⟩)|(go_at_call 143;refine(HD.out _).mono ?_;rintro e w' ⟨rfl,rfl⟩)|(go_at_call 98;refine HS.out.mono ?_;rintro e w' ⟨rfl,rfl⟩)|(go_at_call 167;refine(xN.out _).mono ?_;rintro e w' ⟨rfl,rfl⟩;simp only[numV]))
 refine bodyPost_ret (v:=nF (gC s)) (by simp[HN.out,nF,HH.out,results,Tryz.results100,go_sem]) rfl ⟨rfl,aC _ _⟩):p:=h
theorem TJ{p:Prop}(h:p:=by
 rw[hw] at HW HN;have xN:=HW;rw[HH.out] at xN;go_enter Tryz.func100,Tryz.ntmps100;go_wp2_with(first|(go_at_call 141;refine(HL.out _).mono ?_;rintro e w' ⟨rfl,rfl⟩)|(go_at_call 98;refine HS.out.mono ?_;rintro e w' ⟨rfl,rfl⟩)|(go_at_call 59;refine(xN.out _).mono ?_;rintro e w' ⟨rfl,rfl⟩))
 refine bodyPost_ret (v:=nF (gC s)) (by simp[HN.out,nF,HH.out,results,Tryz.results100,go_sem]) rfl ⟨rfl,aC _ _⟩):p:=h
def nF:Except Int (Int×bA×Int)->Value
 | .error e=>.tuple #[tokV 0 ⟨#[]⟩ 0 0,.int .i64 e]
 | .ok (k,t,n)=>.tuple #[tokV k t n 0,.int .i64 0]
def SignsAt(w:World):Prop:=∀i x,eZ[i]? =some x->w.cell? ⟨0,i,none⟩=some (.string x)
theorem SignsAt.later{w w':World}(h:SignsAt w)(hb:Below w.heap.size w w'):SignsAt w':=fun i x hx=>aB hb (h i x hx)
theorem headB_size(s:bA)(n:Nat):(jN s n).size<=s.size:=by unfold jN;rw[ByteArray.size_extract];omega
abbrev signsV:Value:=.agg (eZ.map Value.string).toArray
theorem signs_index(w:World):∀(k:Nat)(x:bA),eZ[k]? =some x->(Instr.index 189 signsV (.int .i64 (k:Int))).run Tryz.prog w=.ok (.string x) w
 |0,_,h=>WS
 |1,_,h=>WS
 |2,_,h=>WS
 |3,_,h=>WS
 |4,_,h=>WS
 |5,_,h=>WS
 |6,_,h=>WS
 |7,_,h=>WS
 |8,_,h=>WS
 |9,_,h=>WS
 |10,_,h=>WS
 |11,_,h=>WS
 |12,_,h=>WS
 |13,_,h=>WS
 |k+14,x,h=>by simp[eZ] at h
theorem find_hit{α:Type}{p:α->Bool}:∀(l:List α)(k:Nat)(x:α),l[k]? =some x->p x=true->(∀y,y∈l.take k->p y=false)->l.find? p=some x
 |[],_,_,h,_,_=>XR
 |y::l,0,x,h,hp,_=>by simp at h;subst h;simp[List.find?,hp]
 |y::l,k+1,x,h,hp,hn=>by
  have h1:=hn y VY;simp only[List.find?,h1];exact find_hit l k x XE hp (fun z hz=>hn z (by simp[hz]))
theorem find_miss{α:Type}{p:α->Bool}{l:List α}(h:∀y,y∈l->p y=false):l.find? p=none:=by
 rw[List.find?_eq_none];intro x hx;simp[h x hx]
theorem lexnext_any(s:bA)(w:World)(hs:s.size<=140737488355328)(uQ:0<s.size)(hg:SignsAt w):
  Calls Tryz.prog 100 #[.string s] w fun e w'=>e=.returned (nF (gC s))/\Below w.heap.size w w':=by
 obtain⟨r,hr⟩:=lG uQ
 have HN:Hid (gC s=if dV s[0] then(if dL (jN s (dW gW s.data.toList)) then .ok (0,jN s (dW gW s.data.toList),0) else .error 12)
  else if cE s[0] then(match dQ (jN s (dW cE s.data.toList)) with
   |some n=>.ok (1,jN s (dW cE s.data.toList),n)
   |none=>.error 3)
  else match eZ.find? (mP s) with
   |some x=>.ok (2,x,0)
   |none=>.error 10):=zh (by unfold gC;rw[hr];rfl)
 clear hr;have HL:=zh (letter_any s[0]);have HD:=zh (pI s[0]);generalize cE s[0]=db at HN HD
 cases hl:dV s[0] with
 |true=>
  rw[hl] at HL HN;have AO:=spanN_le gW s.data.toList;rw[<-hH] at AO;have HS:=zh (span_any 166 gW s (w.alloc (dA 0 ByteArray.empty 0 0)) hs enters_lexnext1 lexnext1_any);have HW:=zh (fun w=>word_any (jN s (dW gW s.data.toList)) w (Nat.le_trans (headB_size s _) hs));generalize dW gW s.data.toList=n at HN AO HS HW;have HH:=zh (show jN s n=s.extract 0 n from rfl);clear hl
  cases hw:dL (jN s n) with
  |true=>
   exact TJ
  |false=>
   exact TJ
 |false=>
  rw[hl] at HL HN;clear hl
  cases db with
  |true=>
   have AO:=spanN_le cE s.data.toList;rw[<-hH] at AO;have HS:=zh (span_any 143 cE s (w.alloc (dA 0 ByteArray.empty 0 0)) hs enters_digit pI);have HW:=zh (fun w=>number_any (jN s (dW cE s.data.toList)) w (Nat.le_trans (headB_size s _) hs));generalize dW cE s.data.toList=n at HN AO HS HW;have HH:=zh (show jN s n=s.extract 0 n from rfl)
   cases hw:dQ (jN s n) with
   |some m=>
    exact TA
   |none=>
    exact TA
  |false=>
   have hr:(w.alloc (dA 0 ⟨#[]⟩ 0 0)).rangeAt 0 0 (eZ.map Value.string):=fun i v hv=>by
    rw[List.getElem?_map] at hv;obtain⟨x,hx,rfl⟩:=Option.map_eq_some_iff.1 hv;rw[Nat.zero_add];exact aB (aC _ _) (hg i x hx)
   go_enter Tryz.func100,Tryz.ntmps100;go_wp2_with(first|(go_at_call 141;refine(HL.out _).mono ?_;rintro e w' ⟨rfl,rfl⟩)|(go_at_call 143;refine(HD.out _).mono ?_;rintro e w' ⟨rfl,rfl⟩)|refine wpList_load_mid rfl 189 (.global 0) rfl 0 0 rfl (eZ.map Value.string) (.array 14 9) hr VT rfl VT ?_);have HX:Hid (∀(k:Nat)(x:bA),eZ[k]? =some x->∀w,(Instr.index 189 (.agg (eZ.map Value.string).toArray) (.int .i64 (k:Int))).run Tryz.prog w=.ok (.string x) w):=zh (fun k x h w=>signs_index w k x h);have HF:=zh (fun(k:Nat)(h:∀y,y∈eZ.take k->mP s y=false)(x:bA)(hx:eZ[k]? =some x)(hp:mP s x=true)=>find_hit eZ k x hx hp h);have HM:=zh (fun(h:∀y,y∈eZ->mP s y=false)=>find_miss (p:=mP s) h);have HT:Hid (eZ.length=14):=zh rfl;clear hr;generalize hv:(eZ.map Value.string).toArray=vv at HX ⊢;clear hv;generalize eZ=L at HX HF HM HN HT hg;(go_loop [44] (fun i=>∃k:Nat,k<=14/\i=.int .i64 k/\Hid (∀x,x∈L.take k->mP s x=false)) (fun i=>14-(intOf i).toNat));case atStart=>exact⟨0,Nat.zero_le _,rfl,zh VY⟩
   case round=>
    obtain⟨k,hk,rfl,HA⟩:=hrel;by_cases pS:k<14
    ·obtain⟨x,hx,-⟩:=getElem?_of_lt (l:=L) (k:=k) (by rw[HT.out];exact pS);have hxr:=HX.out k x hx;have HK:=zh hx;clear hx
     cases hq:mP s x with
     |true=>
      have HQ:=zh hq;clear hq;go_wp2_with(go_at_call 168;refine(Tryz.strings_HasPrefix _ _ _).mono ?_;rintro e w' ⟨rfl,rfl⟩;rw[show Lib.hasPrefix s.data.toList x.data.toList=true from HQ.out]);refine bodyPost_ret (v:=nF (gC s)) (by simp[HN.out,HF.out k HA.out x HK.out HQ.out,nF,results,Tryz.results100,go_sem]) rfl ⟨rfl,aC _ _⟩
     |false=>
      have HQ:=zh hq;clear hq;go_wp2_with(go_at_call 168;refine(Tryz.strings_HasPrefix _ _ _).mono ?_;rintro e w' ⟨rfl,rfl⟩;rw[show Lib.hasPrefix s.data.toList x.data.toList=false from HQ.out])
      go_round
      (case rel=>exact⟨k+1,VS,WH,zh (take_no HK.out HQ.out HA.out)⟩);case measure=>simp[intOf];omega
    have hk':k=14:=VS;subst hk';go_wp2_with fail;refine bodyPost_ret (v:=nF (gC s)) (by simp[HN.out,HM.out (fun y hy=>HA.out y (by rw[List.take_of_length_le (by rw[HT.out];decide)];exact hy)),nF,results,Tryz.results100,go_sem]) rfl ⟨rfl,aC _ _⟩
end Go.Proofs.YtiionicikdnnpaaGreatDoor
