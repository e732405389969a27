/- Texts of this seat, joined. -/
import Derived.Deep.MidRow
import Derived.Test.YtacgopankhpnbaaGreatDoorTQI
import Derived.Test.YtacgopankhpnbaaGreatDoorTQC
set_option maxHeartbeats 800000
set_option maxRecDepth 100000
set_option linter.unusedVariables false
set_option linter.unusedSimpArgs false
namespace Go.Proofs.YtacgopankhpnbaaGreatDoor
open Go.RowKit
theorem YU{p:Prop}(h:p:=by
 rw[hw] at HW HN;have zL:=HW;rw[HH.out] at zL;go_enter Tryz.func129,Tryz.ntmps129;go_wp2_with(first|(go_at_call 179;refine(HL.out _).mono ?_;rintro e w' ⟨rfl,rfl⟩)|(go_at_call 181;refine(HD.out _).mono ?_;rintro e w' ⟨rfl,rfl⟩)|(go_at_call 127;refine HS.out.mono ?_;rintro e w' ⟨rfl,rfl⟩)|(go_at_call 183;refine(zL.out _).mono ?_;rintro e w' ⟨rfl,rfl⟩;simp only[numV]))
 refine bodyPost_ret (v:=pK (gV s)) (by simp[HN.out,pK,HH.out,results,Tryz.results129,go_sem]) rfl ⟨rfl,aA _ _⟩):p:=h
theorem Y6{p:Prop}(h:p:=by
 rw[hw] at HW HN;have zL:=HW;rw[HH.out] at zL;go_enter Tryz.func129,Tryz.ntmps129;go_wp2_with(first|(go_at_call 179;refine(HL.out _).mono ?_;rintro e w' ⟨rfl,rfl⟩)|(go_at_call 127;refine HS.out.mono ?_;rintro e w' ⟨rfl,rfl⟩)|(go_at_call 182;refine(zL.out _).mono ?_;rintro e w' ⟨rfl,rfl⟩))
 refine bodyPost_ret (v:=pK (gV s)) (by simp[HN.out,pK,HH.out,results,Tryz.results129,go_sem]) rfl ⟨rfl,aA _ _⟩):p:=h
def pK:Except Int (Int×bA×Int)->Value
 | .error e=>.tuple #[tokV 0 ⟨#[]⟩ 0 0,.int .i64 e]
 | .ok (k,t,n)=>.tuple #[tokV k t n 0,.int .i64 0]
def SignsAt(w:World):Prop:=∀i x,gL[i]? =some x->w.cell? ⟨1,i,none⟩=some (.string x)
theorem SignsAt.later{w w':World}(h:SignsAt w)(hb:Below w.heap.size w w'):SignsAt w':=fun i x hx=>aC hb (h i x hx)
theorem headB_size(s:bA)(n:Nat):(lA s n).size<=s.size:=by unfold lA;rw[ByteArray.size_extract];omega
abbrev signsV:Value:=.agg (gL.map Value.string).toArray
theorem signs_index(w:World):∀(k:Nat)(x:bA),gL[k]? =some x->(Instr.index 250 signsV (.int .i64 (k:Int))).run Tryz.prog w=.ok (.string x) w
 |0,_,h=>aBi
 |1,_,h=>aBi
 |2,_,h=>aBi
 |3,_,h=>aBi
 |4,_,h=>aBi
 |5,_,h=>aBi
 |6,_,h=>aBi
 |7,_,h=>aBi
 |8,_,h=>aBi
 |9,_,h=>aBi
 |10,_,h=>aBi
 |11,_,h=>aBi
 |12,_,h=>aBi
 |13,_,h=>aBi
 |k+14,x,h=>by simp[gL] at h
theorem find_hit{α:Type}{p:α->Bool}:∀(l:List α)(k:Nat)(x:α),l[k]? =some x->p x=true->(∀y,y∈l.take k->p y=false)->l.find? p=some x
 |[],_,_,h,_,_=>aBF
 |y::l,0,x,h,hp,_=>by simp at h;subst h;simp[List.find?,hp]
 |y::l,k+1,x,h,hp,hn=>by
  have h1:=hn y aAQ;simp only[List.find?,h1];exact find_hit l k x aBn hp (fun z hz=>hn z (by simp[hz]))
theorem find_miss{α:Type}{p:α->Bool}{l:List α}(h:∀y,y∈l->p y=false):l.find? p=none:=by
 rw[List.find?_eq_none];intro x hx;simp[h x hx]
theorem lexnext_any(s:bA)(w:World)(hs:s.size<=140737488355328)(uD:0<s.size)(hg:SignsAt w):
  Calls Tryz.prog 129 #[.string s] w fun e w'=>e=.returned (pK (gV s))/\Below w.heap.size w w':=by
 obtain⟨r,hr⟩:=oX uD
 have HN:Hid (gV s=if kB s[0] then(if lO (lA s (dX lV s.data.toList)) then .ok (0,lA s (dX lV s.data.toList),0) else .error 12)
  else if dO s[0] then(match kJ (lA s (dX dO s.data.toList)) with
   |some n=>.ok (1,lA s (dX dO s.data.toList),n)
   |none=>.error 3)
  else match gL.find? (oP s) with
   |some x=>.ok (2,x,0)
   |none=>.error 10):=zh (by unfold gV;rw[hr];rfl)
 clear hr;have HL:=zh (letter_any s[0]);have HD:=zh (rT s[0]);generalize dO s[0]=db at HN HD
 cases hl:kB s[0] with
 |true=>
  rw[hl] at HL HN;have zI:=spanN_le lV s.data.toList;rw[<-iS] at zI;have HS:=zh (span_any 180 lV s (w.alloc (dE 0 ByteArray.empty 0 0)) hs enters_lexnext1 lexnext1_any);have HW:=zh (fun w=>word_any (lA s (dX lV s.data.toList)) w (Nat.le_trans (headB_size s _) hs));generalize dX lV s.data.toList=n at HN zI HS HW;have HH:=zh (show lA s n=s.extract 0 n from rfl);clear hl
  cases hw:lO (lA s n) with
  |true=>
   exact Y6
  |false=>
   exact Y6
 |false=>
  rw[hl] at HL HN;clear hl
  cases db with
  |true=>
   have zI:=spanN_le dO s.data.toList;rw[<-iS] at zI;have HS:=zh (span_any 181 dO s (w.alloc (dE 0 ByteArray.empty 0 0)) hs enters_digit rT);have HW:=zh (fun w=>number_any (lA s (dX dO s.data.toList)) w (Nat.le_trans (headB_size s _) hs));generalize dX dO s.data.toList=n at HN zI HS HW;have HH:=zh (show lA s n=s.extract 0 n from rfl)
   cases hw:kJ (lA s n) with
   |some m=>
    exact YU
   |none=>
    exact YU
  |false=>
   have hr:(w.alloc (dE 0 ⟨#[]⟩ 0 0)).rangeAt 1 0 (gL.map Value.string):=fun i v hv=>by
    rw[List.getElem?_map] at hv;obtain⟨x,hx,rfl⟩:=Option.map_eq_some_iff.1 hv;rw[Nat.zero_add];exact aC (aA _ _) (hg i x hx)
   go_enter Tryz.func129,Tryz.ntmps129;go_wp2_with(first|(go_at_call 179;refine(HL.out _).mono ?_;rintro e w' ⟨rfl,rfl⟩)|(go_at_call 181;refine(HD.out _).mono ?_;rintro e w' ⟨rfl,rfl⟩)|refine wpList_load_mid rfl 250 (.global 1) rfl 1 0 rfl (gL.map Value.string) (.array 14 9) hr aAN rfl aAN ?_);have HX:Hid (∀(k:Nat)(x:bA),gL[k]? =some x->∀w,(Instr.index 250 (.agg (gL.map Value.string).toArray) (.int .i64 (k:Int))).run Tryz.prog w=.ok (.string x) w):=zh (fun k x h w=>signs_index w k x h);have HF:=zh (fun(k:Nat)(h:∀y,y∈gL.take k->oP s y=false)(x:bA)(hx:gL[k]? =some x)(hp:oP s x=true)=>find_hit gL k x hx hp h);have HM:=zh (fun(h:∀y,y∈gL->oP s y=false)=>find_miss (p:=oP s) h);have HT:Hid (gL.length=14):=zh rfl;clear hr;generalize hv:(gL.map Value.string).toArray=vv at HX ⊢;clear hv;generalize gL=L at HX HF HM HN HT hg;(go_loop [44] (fun i=>∃k:Nat,k<=14/\i=.int .i64 k/\Hid (∀x,x∈L.take k->oP s x=false)) (fun i=>14-(intOf i).toNat));case atStart=>exact⟨0,Nat.zero_le _,rfl,zh aAQ⟩
   case round=>
    obtain⟨k,hk,rfl,HA⟩:=hrel;by_cases sE:k<14
    ·obtain⟨x,hx,-⟩:=getElem?_of_lt (l:=L) (k:=k) (by rw[HT.out];exact sE);have hxr:=HX.out k x hx;have HK:=zh hx;clear hx
     cases hq:oP s x with
     |true=>
      have HQ:=zh hq;clear hq;go_wp2_with(go_at_call 184;refine(Tryz.strings_HasPrefix _ _ _).mono ?_;rintro e w' ⟨rfl,rfl⟩;rw[show Lib.hasPrefix s.data.toList x.data.toList=true from HQ.out]);refine bodyPost_ret (v:=pK (gV s)) (by simp[HN.out,HF.out k HA.out x HK.out HQ.out,pK,results,Tryz.results129,go_sem]) rfl ⟨rfl,aA _ _⟩
     |false=>
      have HQ:=zh hq;clear hq;go_wp2_with(go_at_call 184;refine(Tryz.strings_HasPrefix _ _ _).mono ?_;rintro e w' ⟨rfl,rfl⟩;rw[show Lib.hasPrefix s.data.toList x.data.toList=false from HQ.out])
      go_round
      (case rel=>exact⟨k+1,aAM,aAV,zh (qF HK.out HQ.out HA.out)⟩);case measure=>simp[intOf];omega
    have KO:k=14:=aAM;subst KO;go_wp2_with fail;refine bodyPost_ret (v:=pK (gV s)) (by simp[HN.out,HM.out (fun y hy=>HA.out y (by rw[List.take_of_length_le (by rw[HT.out];decide)];exact hy)),pK,results,Tryz.results129,go_sem]) rfl ⟨rfl,aA _ _⟩
end Go.Proofs.YtacgopankhpnbaaGreatDoor
