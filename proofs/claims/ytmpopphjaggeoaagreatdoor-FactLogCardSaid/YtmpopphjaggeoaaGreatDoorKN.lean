/- Texts of this seat, joined. -/
import Derived.Test.YtmpopphjaggeoaaGreatDoorKB
import Derived.Test.YtmpopphjaggeoaaGreatDoorKD
set_option maxHeartbeats 400000
set_option linter.unusedVariables false
set_option linter.unusedSimpArgs false
set_option linter.constructorNameAsVariable false
namespace Go.Proofs.YtmpopphjaggeoaaGreatDoor
open Go.RowKit
theorem BB{p:Prop}(h:p:=by
 go_wp2_with fail;go_loop [8] (fun i=>i=.int .i64 0) (fun i=>0)
 case atStart=>rfl
 case round=>
  subst hrel;go_wp2_with fail;go_ret
  exact⟨rfl,Below.refl _ _⟩):p:=h
def Tests{α:Type}(P:Program)(g:FuncId)(cap:Array Value)(enc:α->Value)(p:α->Bool)(l:List α)(w:World):Prop:=
 ∀x,x∈l->∀W,Below w.heap.size w W->Calls P g (#[enc x]++cap) W fun e W'=>e=.returned (.bool (p x))/\Below W.heap.size W W'
theorem findIdx_hit{α:Type}{p:α->Bool}{l:List α}{k:Nat}{x:α}(hx:l[k]? =some x)(hp:p x=true)(nB:∀y,y∈l.take k->p y=false):l.findIdx? p=some k:=by
 rw[List.findIdx?_eq_some_iff_getElem];obtain⟨h,rfl⟩:=Yb.1 hx;refine⟨h,hp,fun j hj=>?_⟩;have:=nB l[j] (by rw[List.mem_take_iff_getElem];exact⟨j,CR,rfl⟩);simp[this]
theorem take_no{α:Type}{p:α->Bool}{l:List α}{k:Nat}{x:α}(hx:l[k]? =some x)(hp:p x=false)(nB:∀y,y∈l.take k->p y=false):∀y,y∈l.take (k+1)->p y=false:=by
 intro y hy;rw[List.take_add_one,List.mem_append] at hy;rcases hy with hy|hy
 ·exact nB y hy
 rw[hx] at hy;simp at hy;rw[hy];exact hp
theorem findIdx_miss{α:Type}{p:α->Bool}{l:List α}{k:Nat}(hk:l.length<=k)(nB:∀y,y∈l.take k->p y=false):l.findIdx? p=none:=by
 rw[List.findIdx?_eq_none_iff];intro x hx;rw[List.take_of_length_le hk] at nB;simp[nB x hx]
def fQ{α:Type}(p:α->Bool)(l:List α):Int:=match l.findIdx? p with|some i=>(i:Int)|none=> -1
theorem idxOf_some{α:Type}{p:α->Bool}{l:List α}{k:Nat}(h:l.findIdx? p=some k):fQ p l=k:=by unfold fQ;rw[h]
theorem idxOf_none{α:Type}{p:α->Bool}{l:List α}(h:l.findIdx? p=none):fQ p l= -1:=by unfold fQ;rw[h]
theorem idxOf_any{α:Type}(p:α->Bool)(l:List α):decide (0<=fQ p l)=l.any p:=by
 unfold fQ
 cases h:l.findIdx? p with
 |none=>
  rw[List.findIdx?_eq_none_iff] at h;have:l.any p=false:=by rw[List.any_eq_false];intro x hx;simp[h x hx]
  rw[this];rfl
 |some i=>
  obtain⟨hi,hp,-⟩:=List.findIdx?_eq_some_iff_getElem.1 h;have:l.any p=true:=List.any_eq_true.2 ⟨_,List.getElem_mem hi,hp⟩;rw[this];simp
theorem indexFunc_str(g:FuncId)(cap:Array Value)(p:bA->Bool)(l:List bA)(v:Value)(w:World)(hv:Strs w v l)
  (eg:∀args w,(callFunc g args).run Tryz.prog w=.ok (.enter g args) w) (hp:Tests Tryz.prog g cap Value.string p l w):
  Calls Tryz.prog 130 #[v,.func (.func g) #[] cap] w fun e w'=>e=.returned (.int .i64 (fQ p l))/\Below w.heap.size w w':=by
 have HP:=zh hp;clear hp;rcases hv.cases with⟨rfl,a,c,rfl⟩|⟨b,o,c,rfl,h0,h1,h2,hb,hc⟩
 ·clear hv;go_enter Tryz.func130,Tryz.ntmps130;exact BB
 clear hv;go_enter Tryz.func130,Tryz.ntmps130;go_wp2_with fail;go_loopw [8] (fun i wr=>∃k:Nat,k<=l.length/\i=.int .i64 k/\(∀x,x∈l.take k->p x=false)/\Below w.heap.size w wr) (fun i _=>l.length-(intOf i).toNat)
 case atStart=>exact⟨0,Nat.zero_le _,rfl,C0,Below.refl _ _⟩
 case round=>
  obtain⟨k,hk,rfl,nB,hbl⟩:=hrel;have HN:=zh nB;clear nB;by_cases jM:k<l.length
  ·obtain⟨x,hx,hxl⟩:=getElem?_of_lt jM;have kP:=aD hbl (hc k x hx).1;have HX:=zh hx;have oP:=zh (HP.out _ hxl _ hbl);clear hc hxl hx
   cases hq:p x with
   |true=>
    rw[hq] at oP;have HQ:=zh hq;clear hq;go_wp2_with(go_at_fn g;refine(oP.out).mono ?_;rintro e w' ⟨rfl,sF⟩);go_ret;exact⟨aQ (idxOf_some (findIdx_hit HX.out HQ.out HN.out)).symm,aA hbl sF⟩
   |false=>
    rw[hq] at oP;have HQ:=zh hq;clear hq;go_wp2_with(go_at_fn g;refine(oP.out).mono ?_;rintro e w' ⟨rfl,sF⟩);go_roundw;(case rel=>exact⟨k+1,CR,C5,take_no HX.out HQ.out HN.out,aA hbl sF⟩);case measure=>simp[intOf];omega
  go_wp2_with fail;go_ret;exact⟨aQ (idxOf_none (findIdx_miss CR HN.out)).symm,hbl⟩
theorem containsFunc_str(g:FuncId)(cap:Array Value)(p:bA->Bool)(l:List bA)(v:Value)(w:World)(hv:Strs w v l)
  (eg:∀args w,(callFunc g args).run Tryz.prog w=.ok (.enter g args) w) (hp:Tests Tryz.prog g cap Value.string p l w):
  Calls Tryz.prog 76 #[v,.func (.func g) #[] cap] w fun e w'=>e=.returned (.bool (l.any p))/\Below w.heap.size w w':=by
 have h:=zh (indexFunc_str g cap p l v w hv eg hp);have HA:=zh (idxOf_any p l);generalize fQ p l=r at h HA;generalize l.any p=q at HA ⊢;clear hp hv eg;go_enter Tryz.func76,Tryz.ntmps76;go_wp2_with(go_at_call 130;refine h.out.mono ?_;rintro e w' ⟨rfl,sF⟩);go_ret;exact⟨aF HA.out,sF⟩
def encFil(_:World)(f:Fil)(cs:List Value):Prop:=cs=[.string f.name,.string f.text]/\f.name.size<=140737488355328/\f.text.size<=140737488355328
def Fils(w:World)(v:Value)(l:List Fil):Prop:=Row 2 encFil w v l
theorem Fils.later{w w':World}{v:Value}{l:List Fil}(hb:Below w.heap.size w w')(h:Fils w v l):Fils w' v l:=Row.later hb (fun _ _ h=>h) h
theorem Fils.cases{w:World}{v:Value}{l:List Fil}(h:Fils w v l):
  (l=[]/\∃a c,v=.slice a 0 c)\/(∃b o c,v=.slice (some ⟨b,o,none⟩) l.length c/\0<l.length/\l.length<=c/\c<=9223372036854775807/\b<w.heap.size/\
   ∀i f,l[i]? =some f->w.cell? ⟨b,o+i*2,none⟩=some (.string f.name)/\w.cell? ⟨b,o+i*2+1,none⟩=some (.string f.text)/\f.name.size<=140737488355328/\f.text.size<=140737488355328):=by
 rcases Row.cases h with h|⟨b,o,c,hv,h0,h1,h2,hb,hc⟩
 ·exact .inl h
 refine .inr ⟨b,o,c,hv,h0,h1,h2,hb,fun i x hx=>?_⟩;obtain⟨cs,⟨e,hs⟩,-,hj⟩:=hc i x hx;exact⟨hj 0 (.string x.name) (by rw[e];rfl),hj 1 (.string x.text) (by rw[e];rfl),hs⟩
theorem strs_slice{w:World}{v:Value}{l:List bA}(h:Strs w v l):∃a c,v=.slice a l.length c:=by
 obtain⟨a,c,hv,-⟩:=h;exact⟨a,c,hv⟩
theorem toList_eq(s:bA):s.toList=s.data.toList:=Lib.toList_data s
theorem dR(a b:bA):(a.toList==b.toList)=decide (a=b):=by
 rw[toList_eq,toList_eq,Bool.eq_iff_iff];simp only[beq_iff_eq,decide_eq_true_eq];exact⟨fun h=>cU h,fun h=>by rw[h]⟩
theorem zero_bool(w:World):(zeroValue 4).run Tryz.prog w=.ok (.bool false) w:=CQ
noncomputable def kStr:KeyC Tryz.prog 9 bA:=strKey Tryz.underlying9
noncomputable def vBool:ValC Tryz.prog 4 Bool:=boolVal Tryz.underlying4 zero_bool
theorem letter_any(c:UInt8)(w:World):Calls Tryz.prog 188 #[.int .u8 c.toNat] w fun e w'=>e=.returned (.bool (eB c))/\w'=w:=by
 go_enter Tryz.func188,Tryz.ntmps188
 go_wp2
 all_goals go_ret
 all_goals refine⟨aF ?_,rfl⟩
 all_goals unfold eB
 all_goals rw[Bool.eq_iff_iff]
 all_goals simp
 all_goals omega
theorem digit_any(c:UInt8)(w:World):Calls Tryz.prog 190 #[.int .u8 c.toNat] w fun e w'=>e=.returned (.bool (fL c))/\w'=w:=by
 go_enter Tryz.func190,Tryz.ntmps190
 go_wp2
 all_goals go_ret
 all_goals refine⟨aF ?_,rfl⟩
 all_goals unfold fL
 all_goals rw[Bool.eq_iff_iff]
 all_goals simp
 all_goals omega
theorem word1_any(c:UInt8)(w:World):Calls Tryz.prog 189 #[.int .u8 c.toNat] w fun e w'=>e=.returned (.bool (wordB c))/\w'=w:=by
 have h1:=zh (letter_any c);have h2:=zh (digit_any c);have hw:=zh (show wordB c=(eB c||fL c) from rfl);generalize eB c=a at h1 hw;generalize fL c=b at h2 hw;go_enter Tryz.func189,Tryz.ntmps189;cases a<;>go_wp2_with(first|(go_at_call 188;refine(h1.out _).mono ?_;rintro e w' ⟨rfl,rfl⟩)|(go_at_call 190;refine(h2.out _).mono ?_;rintro e w' ⟨rfl,rfl⟩));all_goals go_ret
 all_goals exact⟨aF hw.out.symm,rfl⟩
theorem spanN_hit{p:UInt8->Bool}:∀(l:List UInt8)(k:Nat),(∀x,x∈l.take k->p x=true)->k<=l.length->(∀x,l[k]? =some x->p x=false)->spanN p l=k
 |[],k,_,h1,_=>by simp at h1;subst h1;rfl
 |x::l,0,_,_,h2=>by
  have:=h2 x rfl;simp[spanN,this]
 |x::l,k+1,h0,h1,h2=>by
  have hx:=h0 x C0;have:=spanN_hit l k (fun y hy=>h0 y (by simp[hy])) (by simpa using h1) (fun y hy=>h2 y ED);unfold spanN at this ⊢;simp[hx,this]
theorem span_any(g:FuncId)(p:UInt8->Bool)(s:bA)(w:World)(hs:s.size<=140737488355328)
  (eg:∀args w,(callFunc g args).run Tryz.prog w=.ok (.enter g args) w)
  (hp:∀c w,Calls Tryz.prog g #[.int .u8 (UInt8.toNat c)] w fun e w'=>e=.returned (.bool (p c))/\w'=w):
  Calls Tryz.prog 153 #[.string s,.func (.func g) #[] #[]] w fun e w'=>e=.returned (.int .i64 (spanN p s.data.toList))/\w=w':=by
 have HP:=zh hp;clear hp;go_enter Tryz.func153,Tryz.ntmps153;go_wp2_with fail;go_loop [5] (fun i=>∃k:Nat,k<=s.size/\i=.int .i64 k/\Hid (∀x,x∈s.data.toList.take k->p x=true)) (fun i=>s.size-(intOf i).toNat)
 case atStart=>exact⟨0,Nat.zero_le _,rfl,zh C0⟩
 case round=>
  obtain⟨k,hk,rfl,HA⟩:=hrel;by_cases jM:k<s.size
  ·have HX:Hid (s.data.toList[k]? =some s[k]):=zh (by rw[List.getElem?_eq_getElem (by simpa using jM)];rfl);have oP:=zh (HP.out s[k])
   cases hq:p s[k] with
   |true=>
    rw[hq] at oP;have HQ:=zh hq;clear hq;go_wp2_with(go_at_fn g;refine(oP.out _).mono ?_;rintro e w' ⟨rfl,rfl⟩)
    go_round
    case rel=>
     refine⟨k+1,CR,C5,zh fun x hx=>?_⟩;rw[take_snoc s k jM,List.mem_append] at hx;rcases hx with hx|hx
     ·exact HA.out x hx
     simp at hx;rw[hx];exact HQ.out
    case measure=>simp[intOf];omega
   |false=>
    rw[hq] at oP;have HQ:=zh hq;clear hq;go_wp2_with(go_at_fn g;refine(oP.out _).mono ?_;rintro e w' ⟨rfl,rfl⟩);go_ret;exact⟨aQ (by rw[spanN_hit _ k HA.out (by simpa using hk) (fun x hx=>by rw[HX.out] at hx;cases hx;exact HQ.out)]),rfl⟩
  go_wp2_with fail;go_ret;exact⟨aQ (by rw[spanN_hit _ k HA.out (by simpa using hk) (fun x hx=>by rw[List.getElem?_eq_none DC] at hx;cases hx)]),rfl⟩
theorem enters_word1:∀args w,(callFunc 189 args).run Tryz.prog w=.ok (.enter 189 args) w:=enters_of Tryz.func189 CQ rfl
theorem toList_nil{s:bA}(h:s.size=0):s.toList=[]:=by rw[Lib.toList_data];exact List.eq_nil_of_length_eq_zero D5
theorem size_len(s:bA):s.size=s.data.toList.length:=C0
theorem toList_ne{s:bA}(h:0<s.size):¬s.toList=[]:=fun e=>by rw[Lib.toList_data] at e;rw[size_len,e] at h;exact absurd h C0
theorem data_cons{s:bA}(h:0<s.size):∃r,s.data.toList=s[0]::r:=by
 cases hh:s.data.toList with
 |nil=>rw[size_len,hh] at h;exact absurd h C0
 |cons c r=>
  refine⟨r,?_⟩;have:s[0]=s.data.toList[0]'(by rw[hh];simp):=rfl;rw[this];simp[hh]
theorem spanN_all{p:UInt8->Bool}:∀(l:List UInt8),decide (spanN p l=l.length)=l.all p
 |[]=>rfl
 |x::l=>by
  have:=spanN_all (p:=p) l;unfold spanN at this ⊢
  cases hx:p x with
  |false=>simp[hx]
  |true=>simp[hx];simpa using this
theorem nat_beq(a b:Nat):((a:Int)==(b:Int))=decide (a=b):=FK
theorem word_any(s:bA)(w:World)(hs:s.size<=140737488355328):Calls Tryz.prog 139 #[.string s] w fun e w'=>e=.returned (.bool (eK s))/\w=w':=by
 have hsp:=zh (span_any 189 wordB s w hs enters_word1 word1_any);by_cases h0:s.size=0
 ·have h1:=toList_nil h0;have HW:Hid (eK s=false):=zh (by unfold eK;rw[<-Lib.toList_data,h1]);go_enter Tryz.func139,Tryz.ntmps139;go_wp2_with fail;go_ret;exact⟨aF HW.out.symm,rfl⟩
 have nZ:0<s.size:=CR;have h1:=toList_ne nZ;have hE:s.toList.isEmpty=false:=by cases hh:s.toList with|nil=>exact absurd hh h1|cons=>rfl
 obtain⟨r,hr⟩:=data_cons nZ
 have HW:Hid (eK s=(eB s[0]&&decide (s.size<=20)&&decide (spanN wordB s.data.toList=s.size))):=zh (by
  rw[show decide (spanN wordB s.data.toList=s.size)=s.data.toList.all wordB by rw[size_len s,spanN_all]];unfold eK;rw[hr])
 have HL:=zh (letter_any s[0] w);clear hr;generalize eB s[0]=a at HW HL
 cases a with
 |false=>
  go_enter Tryz.func139,Tryz.ntmps139;go_wp2_with(go_at_call 188;refine HL.out.mono ?_;rintro e w' ⟨rfl,rfl⟩);go_ret;exact⟨aF (by rw[HW.out];rfl),rfl⟩
 |true=>
  by_cases h20:(20:Int)<(s.size:Int)
  ·go_enter Tryz.func139,Tryz.ntmps139;go_wp2_with(go_at_call 188;refine HL.out.mono ?_;rintro e w' ⟨rfl,rfl⟩);go_ret;exact⟨aF (by rw[HW.out,decide_eq_false CR];rfl),rfl⟩
  go_enter Tryz.func139,Tryz.ntmps139;go_wp2_with(first|(go_at_call 188;refine HL.out.mono ?_;rintro e w' ⟨rfl,rfl⟩)|(go_at_call 153;refine hsp.out.mono ?_;rintro e w' ⟨rfl,rfl⟩));go_ret;exact⟨aF (by rw[HW.out,decide_eq_true (show s.size<=20 by omega),nat_beq];rfl),rfl⟩
end Go.Proofs.YtmpopphjaggeoaaGreatDoor
