/- Texts of this seat, joined. -/
import Derived.Test.YtacgopankhpnbaaGreatDoorSA
import Derived.Test.YtacgopankhpnbaaGreatDoorSD
set_option maxHeartbeats 1000000
set_option linter.unusedVariables false
set_option linter.unusedSimpArgs false
namespace Go.Proofs.YtacgopankhpnbaaGreatDoor
open Go.RowKit
theorem TE{p:Prop}(h:p:=by
 go_wp2_with fail;go_loop [8] (fun i=>i=.int .i64 0) (fun i=>0)
 case atStart=>rfl
 case round=>
  subst hrel;go_wp2_with fail;go_ret
  exact⟨rfl,Below.refl _ _⟩):p:=h
theorem TG{p:Prop}(h:p:=by
 cases hq:p x with
 |true=>
  rw[hq] at qG;have HQ:=zh hq;clear hq;go_wp2_with(go_at_fn g;refine(qG.out).mono ?_;rintro e w' ⟨rfl,qU⟩);go_ret;exact⟨eW (idxOf_some (nZ HX.out HQ.out HN.out)).symm,aB rZ qU⟩
 |false=>
  rw[hq] at qG;have HQ:=zh hq;clear hq;go_wp2_with(go_at_fn g;refine(qG.out).mono ?_;rintro e w' ⟨rfl,qU⟩);go_roundw;case rel=>exact⟨k+1,VG,VT,take_no HX.out HQ.out HN.out,aB rZ qU⟩
  case measure=>simp[intOf];omega):p:=h
theorem UJ{p:Prop}(h:p:=by
 go_wp2_with fail;go_ret
 exact⟨eW (idxOf_none (mO VG HN.out)).symm,rZ⟩):p:=h
theorem isName_bad(s:ByteArray)(k:Nat)(h:k<s.size)(hb:(s[k].toNat:Int)<33\/126<(s[k].toNat:Int)):eJ s=false:=by
 have hf:s.data.toList.all oZ=false:=by
  rw[List.all_eq_false];refine⟨s[k],?_,?_⟩
  ·have:s[k]=s.data.toList[k]' WI:=rfl;rw[this];exact List.getElem_mem _
  ·simp[oZ];omega
 simp[eJ,hf]
theorem isName_empty(s:ByteArray)(h:s.toList=[]):eJ s=false:=by simp[eJ,h]
theorem isName_full(s:ByteArray)(h:s.data.toList.all oZ=true)(pQ:¬s.toList=[]):eJ s=decide (s.size<=20):=by
 have h2:s.toList.isEmpty=false:=by cases hh:s.toList with
  |nil=>exact absurd hh pQ
  |cons=>rfl
 rw[eJ,h,h2];simp
theorem notEmpty_and{s:ByteArray}{a b:Bool}(h:¬s.toList=[])(e:a=b):(!s.toList.isEmpty&&a)=b:=by
 cases hh:s.toList with
 |nil=>exact absurd hh h
 |cons=>simpa using e
theorem isName_any(s:ByteArray)(w:World)(hs:s.size<=140737488355328):
  Calls Tryz.prog 56 #[.string s] w fun e w'=>e=.returned (.bool (eJ s))/\w=w':=by
 go_enter Tryz.func56,Tryz.ntmps56
 go_wp2
 go_loop [6] (fun i=>∃k:Nat,k<=s.size/\i=.int .i64 k/\(s.data.toList.take k).all oZ=true) (fun i=>s.size-(intOf i).toNat)
 case atStart=>exact⟨0,Nat.zero_le _,rfl,rfl⟩
 case round=>
  obtain⟨k,hk,rfl,qP⟩:=hrel;have HA:=zh qP;clear qP
  go_wp2
  ·go_ret;exact⟨aD (isName_bad s k ‹_› ‹_›).symm,rfl⟩
  ·go_round
   (case rel=>exact⟨k+1,VG,VT,by rw[take_snoc s k ‹_›,List.all_append,HA.out];simp[oZ];omega⟩);case measure=>simp[intOf];omega
  ·go_ret;exact⟨aD (isName_bad s k ‹_› (Or.inl ‹_›)).symm,rfl⟩
  ·go_ret;exact⟨aD (isName_empty s ‹_›).symm,rfl⟩
  ·have KL:k=s.size:=VG;subst KL;go_ret;have h1:=HA.out;rw[List.take_of_length_le VL] at h1;exact⟨aD (by rw[isName_full s h1 ‹_›];exact notEmpty_and ‹_› VZ),rfl⟩
theorem right1_any(s:ByteArray)(w:World)(hs:s.size<=140737488355328):
  Calls Tryz.prog 58 #[.string s] w fun e w'=>e=.returned (.bool (!eJ s))/\w=w':=by
 go_enter Tryz.func58,Tryz.ntmps58;go_wp2_with(go_at_call 56;refine(isName_any _ _ hs).mono ?_;rintro e w' ⟨rfl,rfl⟩);go_ret;exact⟨rfl,rfl⟩
def Tests{α:Type}(P:Program)(g:FuncId)(cap:Array Value)(enc:α->Value)(p:α->Bool)(l:List α)(w:World):Prop:=
 ∀x,x∈l->∀W,Below w.heap.size w W->Calls P g (#[enc x]++cap) W fun e W'=>e=.returned (.bool (p x))/\Below W.heap.size W W'
theorem nZ{α:Type}{p:α->Bool}{l:List α}{k:Nat}{x:α}(hx:l[k]? =some x)(hp:p x=true)(BX:∀y,y∈l.take k->p y=false):l.findIdx? p=some k:=by
 rw[List.findIdx?_eq_some_iff_getElem];obtain⟨h,rfl⟩:=List.getElem?_eq_some_iff.1 hx;refine⟨h,hp,fun j hj=>?_⟩;have:=BX l[j] (by rw[List.mem_take_iff_getElem];exact⟨j,VG,rfl⟩);simp[this]
theorem take_no{α:Type}{p:α->Bool}{l:List α}{k:Nat}{x:α}(hx:l[k]? =some x)(hp:p x=false)(BX:∀y,y∈l.take k->p y=false):∀y,y∈l.take (k+1)->p y=false:=by
 intro y hy;rw[List.take_add_one,List.mem_append] at hy;rcases hy with hy|hy
 ·exact BX y hy
 ·rw[hx] at hy;simp at hy;rw[hy];exact hp
theorem mO{α:Type}{p:α->Bool}{l:List α}{k:Nat}(hk:l.length<=k)(BX:∀y,y∈l.take k->p y=false):l.findIdx? p=none:=by
 rw[List.findIdx?_eq_none_iff];intro x hx;rw[List.take_of_length_le hk] at BX;simp[BX x hx]
def lF{α:Type}(p:α->Bool)(l:List α):Int:=match l.findIdx? p with|some i=>(i:Int)|none=> -1
theorem idxOf_some{α:Type}{p:α->Bool}{l:List α}{k:Nat}(h:l.findIdx? p=some k):lF p l=k:=by unfold lF;rw[h]
theorem idxOf_none{α:Type}{p:α->Bool}{l:List α}(h:l.findIdx? p=none):lF p l= -1:=by unfold lF;rw[h]
theorem idxOf_any{α:Type}(p:α->Bool)(l:List α):decide (0<=lF p l)=l.any p:=by
 unfold lF
 cases h:l.findIdx? p with
 |none=>
  rw[List.findIdx?_eq_none_iff] at h;have:l.any p=false:=by rw[List.any_eq_false];intro x hx;simp[h x hx]
  rw[this];rfl
 |some i=>
  obtain⟨hi,hp,-⟩:=List.findIdx?_eq_some_iff_getElem.1 h;have:l.any p=true:=List.any_eq_true.2 ⟨_,List.getElem_mem hi,hp⟩;rw[this];simp
theorem indexFunc_str(g:FuncId)(cap:Array Value)(p:ByteArray->Bool)(l:List ByteArray)(v:Value)(w:World)(hv:Strs w v l)
  (eg:∀args w,(callFunc g args).run Tryz.prog w=.ok (.enter g args) w) (hp:Tests Tryz.prog g cap Value.string p l w):
  Calls Tryz.prog 88 #[v,.func (.func g) #[] cap] w fun e w'=>e=.returned (.int .i64 (lF p l))/\Below w.heap.size w w':=by
 have HP:=zh hp;clear hp;rcases hv.cases with⟨rfl,a,c,rfl⟩|⟨b,o,c,rfl,h0,h1,h2,hb,hc⟩
 ·clear hv;go_enter Tryz.func88,Tryz.ntmps88;exact TE
 ·clear hv;go_enter Tryz.func88,Tryz.ntmps88;go_wp2_with fail;go_loopw [8] (fun i wr=>∃k:Nat,k<=l.length/\i=.int .i64 k/\(∀x,x∈l.take k->p x=false)/\Below w.heap.size w wr) (fun i _=>l.length-(intOf i).toNat)
  case atStart=>exact⟨0,Nat.zero_le _,rfl,VL,Below.refl _ _⟩
  case round=>
   obtain⟨k,hk,rfl,BX,rZ⟩:=hrel;have HN:=zh BX;clear BX;by_cases pT:k<l.length
   ·obtain⟨x,hx,ET⟩:=getElem?_of_lt pT;have qZ:=aC rZ (hc k x hx).1;have HX:=zh hx;have qG:=zh (HP.out _ ET _ rZ);clear hc ET hx;exact TG
   ·exact UJ
theorem pI(g:FuncId)(cap:Array Value)(p:ByteArray->Bool)(l:List ByteArray)(v:Value)(w:World)(hv:Strs w v l)
  (eg:∀args w,(callFunc g args).run Tryz.prog w=.ok (.enter g args) w) (hp:Tests Tryz.prog g cap Value.string p l w):
  Calls Tryz.prog 57 #[v,.func (.func g) #[] cap] w fun e w'=>e=.returned (.bool (l.any p))/\Below w.heap.size w w':=by
 have h:=zh (indexFunc_str g cap p l v w hv eg hp);have HA:=zh (idxOf_any p l);generalize lF p l=r at h HA;generalize l.any p=q at HA ⊢;clear hp hv eg;go_enter Tryz.func57,Tryz.ntmps57;go_wp2_with(go_at_call 88;refine h.out.mono ?_;rintro e w' ⟨rfl,qU⟩);go_ret;exact⟨aD HA.out,qU⟩
theorem VB{p:Prop}(h:p:=by
 obtain⟨a,c,hv,-⟩:=h;exact⟨a,c,hv⟩):p:=h
def encFil(_:World)(f:Fil)(cs:List Value):Prop:=cs=[.string f.name,.string f.text]/\f.name.size<=140737488355328/\f.text.size<=140737488355328
def iB(w:World)(v:Value)(l:List Fil):Prop:=Row 2 encFil w v l
theorem iB.later{w w':World}{v:Value}{l:List Fil}(hb:Below w.heap.size w w')(h:iB w v l):iB w' v l:=Row.later hb (fun _ _ h=>h) h
theorem iB.cases{w:World}{v:Value}{l:List Fil}(h:iB w v l):
  (l=[]/\∃a c,v=.slice a 0 c)\/(∃b o c,v=.slice (some ⟨b,o,none⟩) l.length c/\0<l.length/\l.length<=c/\c<=9223372036854775807/\b<w.heap.size/\
   ∀i f,l[i]? =some f->w.cell? ⟨b,o+i*2,none⟩=some (.string f.name)/\w.cell? ⟨b,o+i*2+1,none⟩=some (.string f.text)/\f.name.size<=140737488355328/\f.text.size<=140737488355328):=by
 rcases Row.cases h with h|⟨b,o,c,hv,h0,h1,h2,hb,hc⟩
 ·exact .inl h
 ·refine .inr ⟨b,o,c,hv,h0,h1,h2,hb,fun i x hx=>?_⟩;obtain⟨cs,⟨e,hs⟩,-,hj⟩:=hc i x hx;exact⟨hj 0 (.string x.name) (by rw[e];rfl),hj 1 (.string x.text) (by rw[e];rfl),hs⟩
theorem enters_isName:∀args w,(callFunc 58 args).run Tryz.prog w=.ok (.enter 58 args) w:=enters_of Tryz.func58 VH rfl
theorem gI{w:World}{v:Value}{l:List ByteArray}(h:Strs w v l):∃a c,v=.slice a l.length c:=by
 exact VB
theorem toList_eq(s:ByteArray):s.toList=s.data.toList:=Lib.toList_data s
theorem cE(a b:ByteArray):(a.toList==b.toList)=decide (a=b):=by
 rw[toList_eq,toList_eq,Bool.eq_iff_iff];simp only[beq_iff_eq,decide_eq_true_eq];exact⟨fun h=>iU h,fun h=>by rw[h]⟩
theorem find1_any(name fn ft:ByteArray)(b:Nat)(w:World)(hb:w.cell? ⟨b,0,none⟩=some (.string name)):
  Calls Tryz.prog 55 #[.agg #[.string fn,.string ft],.pointer (some ⟨b,0,none⟩)] w fun e w'=>e=.returned (.bool (decide (fn=name)))/\Below w.heap.size w w':=by
 have pT:=cU hb;go_enter Tryz.func55,Tryz.ntmps55;go_wp2_with fail;go_ret;exact⟨aD (cE _ _),(Below.refl _ _).alloc (Nat.le_refl _) _⟩
theorem indexFunc_fil(g:FuncId)(cap:Array Value)(p:Fil->Bool)(l:List Fil)(v:Value)(w:World)(hv:iB w v l)
  (eg:∀args w,(callFunc g args).run Tryz.prog w=.ok (.enter g args) w) (hp:Tests Tryz.prog g cap (fun f:Fil=>.agg #[.string f.name,.string f.text]) p l w):
  Calls Tryz.prog 54 #[v,.func (.func g) #[] cap] w fun e w'=>e=.returned (.int .i64 (lF p l))/\Below w.heap.size w w':=by
 have HP:=zh hp;clear hp;rcases hv.cases with⟨rfl,a,c,rfl⟩|⟨b,o,c,rfl,h0,h1,h2,hb,hc⟩
 ·clear hv;go_enter Tryz.func54,Tryz.ntmps54;exact TE
 ·clear hv;go_enter Tryz.func54,Tryz.ntmps54;go_wp2_with fail;go_loopw [8] (fun i wr=>∃k:Nat,k<=l.length/\i=.int .i64 k/\(∀x,x∈l.take k->p x=false)/\Below w.heap.size w wr) (fun i _=>l.length-(intOf i).toNat)
  case atStart=>exact⟨0,Nat.zero_le _,rfl,VL,Below.refl _ _⟩
  case round=>
   obtain⟨k,hk,rfl,BX,rZ⟩:=hrel;have HN:=zh BX;clear BX;by_cases pT:k<l.length
   ·obtain⟨x,hx,ET⟩:=getElem?_of_lt pT;obtain⟨c1,c2,-,-⟩:=hc k x hx;have DZ:=aC rZ c1;have DY:=aC rZ c2;have HX:=zh hx;have qG:=zh (HP.out _ ET _ rZ);clear hc ET hx c1 c2;exact TG
   ·exact UJ
theorem enters_find1:∀args w,(callFunc 55 args).run Tryz.prog w=.ok (.enter 55 args) w:=enters_of Tryz.func55 VH rfl
def jX(l:List Fil)(name:ByteArray):Value:=match aJ l name with
 |some t=>.tuple #[.string t,.bool true]
 |none=>.tuple #[.string ByteArray.empty,.bool false]
theorem findFile_idx(l:List Fil)(name:ByteArray):
  (lF (fun f:Fil=>decide (f.name=name)) l= -1/\aJ l name=none)\/∃(k:Nat)(f:Fil),l[k]? =some f/\lF (fun f:Fil=>decide (f.name=name)) l=k/\aJ l name=some f.text:=by
 unfold lF aJ
 cases h:l.findIdx? (fun f:Fil=>decide (f.name=name)) with
 |none=>
  refine .inl ⟨rfl,?_⟩;rw[List.findIdx?_eq_none_iff] at h;rw[List.find?_eq_none.2 (fun x hx=>by simpa using h x hx)];rfl
 |some k=>
  obtain⟨hk,hp,BX⟩:=List.findIdx?_eq_some_iff_getElem.1 h;refine .inr ⟨k,l[k],List.getElem?_eq_getElem hk,rfl,?_⟩
  have:l.find? (fun f:Fil=>decide (f.name=name))=some l[k]:=by
   rw[List.find?_eq_some_iff_getElem];exact⟨hp,k,hk,rfl,fun j hj=>by simpa using BX j hj⟩
  rw[this];rfl
theorem find_any(l:List Fil)(v:Value)(name:ByteArray)(w:World)(hv:iB w v l):
  Calls Tryz.prog 21 #[v,.string name] w fun e w'=>e=.returned (jX l name)/\Below w.heap.size w w':=by
 have IR:∀W,Below w.heap.size w W->W.heap[w.heap.size]? =some (.cells #[.string name] 9)->Calls Tryz.prog 54 #[v,.func (.func 55) #[] #[.pointer (some ⟨w.heap.size,0,none⟩)]] W
   fun e w'=>e=.returned (.int .i64 (lF (fun f:Fil=>decide (f.name=name)) l))/\Below W.heap.size W w':=fun W hb hW=>
  indexFunc_fil _ _ _ l v W (hv.later hb) enters_find1 (fun x _ W' qU=>by
   have h0:W.cell? ⟨w.heap.size,0,none⟩=some (.string name):=by simp[World.cell?,hW]
   exact find1_any name x.name x.text w.heap.size W' (aC qU h0))
 have HI:=zh IR;clear IR;have tJ:=findFile_idx l name;unfold jX;rcases tJ with⟨hi,hf⟩|⟨k,f,hk,hi,hf⟩
 ·rw[hf];rw[hi] at HI;obtain⟨a,c,hv,-⟩:=hv;subst hv;clear hi hf;go_enter Tryz.func21,Tryz.ntmps21;go_wp2_with(go_at_call 54;refine(HI.out _ (aA _ _) (aN _ _)).mono ?_;rintro e w' ⟨rfl,qU⟩);go_ret2;exact⟨rfl,aB (aA _ _) qU⟩
 ·rcases hv.cases with⟨rfl,-⟩|⟨b,o,c,rfl,h0,h1,h2,hb,hc⟩
  ·simp at hk
  ·rw[hf];rw[hi] at HI;obtain⟨c1,c2,-,-⟩:=hc k f hk;have DF:k<l.length:=(List.getElem?_eq_some_iff.1 hk).1;clear hi hf hc hk c1 hv;go_enter Tryz.func21,Tryz.ntmps21;go_wp2_with(go_at_call 54;refine(HI.out _ (aA _ _) (aN _ _)).mono ?_;rintro e w' ⟨rfl,qU⟩;have rB:=aC (aB (aA _ _) qU) c2);go_ret2;exact⟨rfl,aB (aA _ _) qU⟩
noncomputable def lS (l:List ByteArray) (x:ByteArray):Option Bool:=if l.any (fun y=>decide (y=x)) then some true else none
theorem kX(l:List ByteArray)(x:ByteArray):(lS l x).getD false=l.any (fun y=>decide (y=x)):=by
 unfold lS;cases h:l.any (fun y=>decide (y=x))<;>simp
theorem zero_bool(w:World):(zeroValue 4).run Tryz.prog w=.ok (.bool false) w:=VH
noncomputable def eI:KeyC Tryz.prog 9 ByteArray:=strKey Tryz.underlying9
noncomputable def dD:ValC Tryz.prog 4 Bool:=boolVal Tryz.underlying4 zero_bool
theorem kF:(140737488355328:Nat)<=maxLen:=VI
theorem bI{ops:Array Oper}{rest:List Oper}{o:Oper}{a:Act}{Q:Exit->Act->World->Prop}{w:World}{b n:Nat}{m:ByteArray->Option Bool}(h:aW eI dD w b n m)
  {x:ByteArray} (hx:x.size<=140737488355328) {r:Bool} (hr:(m x).getD false=r) {mo xo:Operand} (hg:o.guard=none) (sJ:o.op=Op.lookup 99 mo xo false) (hm:a.eval mo=.map (some b)) (BO:a.eval xo=.string x)
  (hK:wpList Tryz.prog ops Q rest (a.put o.dst (.bool r)) w):wpList Tryz.prog ops Q (o::rest) a w:=
 wpList_look (K:=eI) (V:=dD) hg sJ Tryz.underlying99 h hm (Nat.le_trans hx kF) BO (by subst hr;exact hK)
theorem jV{ops:Array Oper}{rest:List Oper}{o:Oper}{a:Act}{Q:Exit->Act->World->Prop}{w:World}{b n:Nat}{m:ByteArray->Option Bool}(h:aW eI dD w b n m)(hn:n<9223372036854775807)
  {x:ByteArray} (hx:x.size<=140737488355328) {r:Bool} {mo xo vo:Operand} (hg:o.guard=none) (sJ:o.op=Op.mapUpdate 99 mo xo vo) (hm:a.eval mo=.map (some b)) (BO:a.eval xo=.string x) (hve:a.eval vo=.bool r)
  (hK:∀w',aW eI dD w' b (n+1) (fun z=>if z=x then some r else m z)->w.grownBy w' (some b)->wpList Tryz.prog ops Q rest (a.put o.dst undef) w'):wpList Tryz.prog ops Q (o::rest) a w:=
 wpList_put (K:=eI) (V:=dD) hg sJ Tryz.underlying99 h VR hm (Nat.le_trans hx kF) BO (y:=r) trivial hve (fun w' h1 h2=>hK w' (by exact h1.ext (fun z=>by by_cases hz:z=x<;>simp[hz])) h2)
theorem mM(l:List ByteArray)(y:ByteArray):(fun z=>if z=y then some true else lS l z)=lS (y::l):=by
 funext z;unfold lS;by_cases h:z=y
 ·subst h;simp
 ·have:decide (y=z)=false:=decide_eq_false (fun e=>h e.symm);simp only[h,if_false,List.any_cons,this,Bool.false_or]
theorem oH{l:List Fil}{k:Nat}{x:Fil}{aI:List ByteArray}(hx:l[k]? =some x)(h:(aI.any fun y=>decide (y=x.name))=true\/eJ x.name=false\/65536<x.text.size)
  (hr:dC l []=dC (l.drop k) aI):aR l=false:=by
 have e:l.drop k=x::l.drop (k+1):=by
  obtain⟨hk,rfl⟩:=List.getElem?_eq_some_iff.1 hx;exact List.drop_eq_getElem_cons hk
 rw[aR,hr,e,dC];rcases h with h|h|h<;>simp[h]
theorem rightFrom_good{l:List Fil}{k:Nat}{x:Fil}{aI:List ByteArray}(hx:l[k]? =some x)(h1:(aI.any fun y=>decide (y=x.name))=false)(h2:eJ x.name=true)(h3:x.text.size<=65536)
  (hr:dC l []=dC (l.drop k) aI):dC l []=dC (l.drop (k+1)) (x.name::aI):=by
 have e:l.drop k=x::l.drop (k+1):=by
  obtain⟨hk,rfl⟩:=List.getElem?_eq_some_iff.1 hx;exact List.drop_eq_getElem_cons hk
 rw[hr,e,dC,h1,h2];simp;omega
theorem rightFrom_end{l:List Fil}{k:Nat}{aI:List ByteArray}(hk:l.length<=k)(hr:dC l []=dC (l.drop k) aI):aR l=decide (l.length<=60):=by
 rw[aR,hr,List.drop_of_length_le hk,dC];simp
theorem gV(l:List Fil)(v:Value)(w:World)(hv:iB w v l):
  Calls Tryz.prog 51 #[v] w fun e w'=>e=.returned (.bool (aR l))/\Below w.heap.size w w':=by
 rcases hv.cases with⟨rfl,a,c,rfl⟩|⟨b,o,c,rfl,h0,h1,h2,hb,hc⟩
 ·have vZ:=@run_makeMap Tryz.prog;clear hv;go_enter Tryz.func51,Tryz.ntmps51;go_wp2_with fail;go_loop [9] (fun i=>i=.int .i64 0) (fun i=>0)
  case atStart=>rfl
  case round=>
   subst hrel;go_wp2_with fail;go_ret;exact⟨rfl,aA _ _⟩
 ·have vZ:=@run_makeMap Tryz.prog;clear hv;have HC:=zh hc;clear hc;go_enter Tryz.func51,Tryz.ntmps51;go_wp2_with fail;clear vZ;go_loopw [9] (fun i wr=>∃(k:Nat)(aI:List ByteArray),k<=l.length/\i=.int .i64 k/\dC l []=dC (l.drop k) aI/\aW eI dD wr w.heap.size k (lS aI)/\Below w.heap.size w wr) (fun i _=>l.length-(intOf i).toNat)
  case atStart=>exact⟨0,[],Nat.zero_le _,rfl,rfl,(aW.made w).ext (fun _=>rfl),aA _ _⟩
  case round=>
   obtain⟨k,aI,hk,rfl,hr,hm,rZ⟩:=hrel;have HR:=zh hr;clear hr;have QH:w.heap.size<wr.heap.size:=hm.lt;by_cases pT:k<l.length
   ·obtain⟨x,hx,-⟩:=getElem?_of_lt pT;obtain⟨c1,c2,s1,s2⟩:=HC.out k x hx;have DZ:=aC rZ c1;have DY:=aC rZ c2;have HX:=zh hx;clear hx c1 c2 HC
    cases hq:aI.any (fun y=>decide (y=x.name)) with
    |true=>
     have hl:=(kX aI x.name).trans hq;have HQ:=zh hq;clear hq;have HL:=zh hl;clear hl;go_wp2_with(at_lookup;refine bI (hm.alloc _) s1 HL.out rfl rfl rfl rfl ?_);go_ret;exact⟨aD (oH HX.out (.inl HQ.out) HR.out).symm,rZ.trans ((aA _ _).mono rZ.size)⟩
    |false=>
     have hl:=(kX aI x.name).trans hq;have HQ:=zh hq;clear hq;have HL:=zh hl;clear hl
     cases hn:eJ x.name with
     |false=>
      have qG:=isName_any x.name (wr.alloc (.cells #[.string x.name,.string x.text] 40)) s1;rw[hn] at qG;have HN:=zh hn;clear hn;have HCL:=zh qG;clear qG;go_wp2_with(first|(at_lookup;refine bI (hm.alloc _) s1 HL.out rfl rfl rfl rfl ?_)|(go_at_call 56;refine HCL.out.mono ?_;rintro e w' ⟨rfl,rfl⟩));go_ret;exact⟨aD (oH HX.out (.inr (.inl HN.out)) HR.out).symm,rZ.trans ((aA _ _).mono rZ.size)⟩
     |true=>
      have qG:=isName_any x.name (wr.alloc (.cells #[.string x.name,.string x.text] 40)) s1;rw[hn] at qG;have HN:=zh hn;clear hn;have HCL:=zh qG;clear qG;go_wp2_with(first|(at_lookup;refine bI (hm.alloc _) s1 HL.out rfl rfl rfl rfl ?_)|(go_at_call 56;refine HCL.out.mono ?_;rintro e w' ⟨rfl,rfl⟩)|(at_mapUpdate;refine jV (hm.alloc _) VG s1 rfl rfl rfl rfl rfl ?_;intro w1 xB CA))
      ·go_ret;exact⟨aD (oH HX.out (.inr (.inr VG)) HR.out).symm,rZ.trans ((aA _ _).mono rZ.size)⟩
      ·go_roundw;(case rel=>exact⟨k+1,x.name::aI,VG,VT,rightFrom_good HX.out HQ.out HN.out VG HR.out,xB.ext (fun z=>congrFun (mM aI x.name) z),(rZ.trans ((aA _ _).mono rZ.size)).grown CA VZ (fun i hi=>by cases hi;exact Nat.le_refl _)⟩);case measure=>simp[intOf];omega
   ·go_wp2_with fail;go_ret;exact⟨aD (by rw[rightFrom_end VG HR.out];simp;omega),rZ⟩
theorem iR(s:Stp)(vf:Value)(w:World)(hv:Strs w vf s.src)(hto:s.out.size<=140737488355328):
  Calls Tryz.prog 24 #[.agg #[.int .i64 s.kind,vf,.string s.out,.bool s.sorted]] w fun e w'=>e=.returned (.bool (aM s))/\Below w.heap.size w w':=by
 obtain⟨kind,src,tn,sorted⟩:=s;simp only at hv hto ⊢
 have hC:∀W,Below w.heap.size w W->Calls Tryz.prog 57 #[vf,.func (.func 58) #[] #[]] W fun e w'=>e=.returned (.bool (src.any fun x=> !eJ x))/\Below W.heap.size W w':=fun W hb=>
  pI _ _ _ src vf W (hv.later hb) enters_isName (fun x hx W' qU=>by
   refine(right1_any x W' (lI hv hx)).mono ?_;rintro e w' ⟨rfl,rfl⟩
   exact⟨rfl,Below.refl _ _⟩)
 have hN:∀W,Calls Tryz.prog 56 #[.string tn] W fun e w'=>e=.returned (.bool (eJ tn))/\W=w':=fun W=>isName_any tn W hto;obtain⟨a,c,AE,-⟩:=hv;subst AE;have HC:=zh hC;clear hC;have HN:=zh hN;clear hN
 have hR:aM ⟨kind,src,tn,sorted⟩=if(!eJ tn||src.any fun x=> !eJ x) then false else if kind=2 then decide (src.length<=60)
   else if kind=1 then decide (src.length<=60)&& !sorted else if kind=0\/kind=3\/kind=4\/kind=5 then decide (src.length=1)&& !sorted else false:=rfl
 have HR:=zh hR;clear hR;generalize aM ⟨kind,src,tn,sorted⟩=R at HR ⊢;generalize hi:eJ tn=ni at HN HR ⊢;generalize ha:(src.any fun x=> !eJ x)=na at HC HR ⊢;clear hi ha
 cases ni with
 |false=>
  clear HC;go_enter Tryz.func24,Tryz.ntmps24;go_wp2_with(go_at_call 56;refine(HN.out _).mono ?_;rintro e w' ⟨rfl,rfl⟩);go_ret;exact⟨aD WM,aA _ _⟩
 |true=>
  cases na with
  |true=>
   go_enter Tryz.func24,Tryz.ntmps24;go_wp2_with(first|(go_at_call 56;refine(HN.out _).mono ?_;rintro e w' ⟨rfl,rfl⟩)|(go_at_call 57;refine(HC.out _ (aA _ _)).mono ?_;rintro e w' ⟨rfl,qU⟩));go_ret;exact⟨aD WM,aB (aA _ _) qU⟩
  |false=>
   by_cases k2:kind=2
   ·subst k2;go_enter Tryz.func24,Tryz.ntmps24;go_wp2_with(first|(go_at_call 56;refine(HN.out _).mono ?_;rintro e w' ⟨rfl,rfl⟩)|(go_at_call 57;refine(HC.out _ (aA _ _)).mono ?_;rintro e w' ⟨rfl,qU⟩;obtain⟨L0,GP⟩:=bcell qU));go_ret;exact⟨aD (by rw[HR.out];simp;omega),aB (aA _ _) qU⟩
   by_cases k1:kind=1
   ·subst k1;go_enter Tryz.func24,Tryz.ntmps24;go_wp2_with(first|(go_at_call 56;refine(HN.out _).mono ?_;rintro e w' ⟨rfl,rfl⟩)|(go_at_call 57;refine(HC.out _ (aA _ _)).mono ?_;rintro e w' ⟨rfl,qU⟩;obtain⟨L0,GP⟩:=bcell qU));(all_goals go_ret);all_goals exact⟨aD (by rw[HR.out];simp;try omega),aB (aA _ _) qU⟩
   have HK2:=zh k2;have HK1:=zh k1;(have b2:(kind==2)=false:=by simpa using k2);(have b1:(kind==1)=false:=by simpa using k1);clear k2 k1;by_cases kx:kind=0\/kind=3\/kind=4\/kind=5
   ·have HKX:=zh kx;by_cases hl:src.length=1
    ·(have bl:(((src.length:Nat):Int)==1)=true:=by simp[hl]);have HL:=zh hl;clear hl;rcases kx with rfl|rfl|rfl|rfl
     all_goals
      clear b2 b1;go_enter Tryz.func24,Tryz.ntmps24;go_wp2_with(first|(go_at_call 56;refine(HN.out _).mono ?_;rintro e w' ⟨rfl,rfl⟩)|(go_at_call 57;refine(HC.out _ (aA _ _)).mono ?_;rintro e w' ⟨rfl,qU⟩;obtain⟨L0,GP⟩:=bcell qU));go_ret;exact⟨aD (by rw[HR.out,HL.out];rfl),aB (aA _ _) qU⟩
    ·have bl:(((src.length:Nat):Int)==1)=false:=VQ;have HL:=zh hl;clear hl;rcases kx with rfl|rfl|rfl|rfl
     all_goals
      clear b2 b1;go_enter Tryz.func24,Tryz.ntmps24;go_wp2_with(first|(go_at_call 56;refine(HN.out _).mono ?_;rintro e w' ⟨rfl,rfl⟩)|(go_at_call 57;refine(HC.out _ (aA _ _)).mono ?_;rintro e w' ⟨rfl,qU⟩;obtain⟨L0,GP⟩:=bcell qU));go_ret;exact⟨aD (by rw[HR.out,decide_eq_false HL.out];rfl),aB (aA _ _) qU⟩
   ·have HKX:=zh kx;have b0:(kind==0)=false:=VQ;have b3:(kind==3)=false:=VQ;have b4:(kind==4)=false:=VQ;have b5:(kind==5)=false:=VQ;clear kx;go_enter Tryz.func24,Tryz.ntmps24;go_wp2_with(first|(go_at_call 56;refine(HN.out _).mono ?_;rintro e w' ⟨rfl,rfl⟩)|(go_at_call 57;refine(HC.out _ (aA _ _)).mono ?_;rintro e w' ⟨rfl,qU⟩;obtain⟨L0,GP⟩:=bcell qU));go_ret;exact⟨aD (by rw[HR.out,if_neg HK2.out,if_neg HK1.out,if_neg HKX.out];rfl),aB (aA _ _) qU⟩
def encStp(w:World)(y:Value×Stp)(cs:List Value):Prop:=cs=[.int .i64 y.2.kind,y.1,.string y.2.out,.bool y.2.sorted]/\Strs w y.1 y.2.src/\y.2.out.size<=140737488355328
def lD(w:World)(v:Value)(l:List (Value×Stp)):Prop:=Row 4 encStp w v l
theorem lD.later{w w':World}{v:Value}{l:List (Value×Stp)}(hb:Below w.heap.size w w')(h:lD w v l):lD w' v l:=
 Row.later hb (fun _ _ h=>⟨h.1,h.2.1.later hb,h.2.2⟩) h
theorem lD.cases{w:World}{v:Value}{l:List (Value×Stp)}(h:lD w v l):
  (l=[]/\∃a c,v=.slice a 0 c)\/(∃b o c,v=.slice (some ⟨b,o,none⟩) l.length c/\0<l.length/\l.length<=c/\c<=9223372036854775807/\b<w.heap.size/\
   ∀i y,l[i]? =some y->w.cell? ⟨b,o+i*4,none⟩=some (.int .i64 y.2.kind)/\w.cell? ⟨b,o+i*4+1,none⟩=some y.1/\w.cell? ⟨b,o+i*4+2,none⟩=some (.string y.2.out)/\w.cell? ⟨b,o+i*4+3,none⟩=some (.bool y.2.sorted)/\Strs w y.1 y.2.src/\y.2.out.size<=140737488355328):=by
 rcases Row.cases h with h|⟨b,o,c,hv,h0,h1,h2,hb,hc⟩
 ·exact .inl h
 ·refine .inr ⟨b,o,c,hv,h0,h1,h2,hb,fun i y hy=>?_⟩;obtain⟨cs,⟨e,hs,hz⟩,-,hj⟩:=hc i y hy;subst e;exact⟨hj 0 _ rfl,hj 1 _ rfl,hj 2 _ rfl,hj 3 _ rfl,hs,hz⟩
theorem lD.src{w:World}{v:Value}{l:List (Value×Stp)}(h:lD w v l){y:Value×Stp}(hy:y∈l):Strs w y.1 y.2.src/\y.2.out.size<=140737488355328:=by
 rcases h.cases with⟨rfl,-⟩|⟨b,o,c,-,-,-,-,-,hc⟩
 ·cases hy
 ·obtain⟨i,hi⟩:=List.getElem?_of_mem hy;exact(hc i y hi).2.2.2.2
theorem stps_slice{w:World}{v:Value}{l:List (Value×Stp)}(h:lD w v l):∃a c,v=.slice a l.length c:=by
 exact VB
abbrev stepV(y:Value×Stp):Value:=.agg #[.int .i64 y.2.kind,y.1,.string y.2.out,.bool y.2.sorted]
theorem indexFunc_stp(g:FuncId)(cap:Array Value)(p:Value×Stp->Bool)(l:List (Value×Stp))(v:Value)(w:World)(hv:lD w v l)
  (eg:∀args w,(callFunc g args).run Tryz.prog w=.ok (.enter g args) w) (hp:Tests Tryz.prog g cap stepV p l w):
  Calls Tryz.prog 97 #[v,.func (.func g) #[] cap] w fun e w'=>e=.returned (.int .i64 (lF p l))/\Below w.heap.size w w':=by
 have HP:=zh hp;clear hp;rcases hv.cases with⟨rfl,a,c,rfl⟩|⟨b,o,c,rfl,h0,h1,h2,hb,hc⟩
 ·clear hv;go_enter Tryz.func97,Tryz.ntmps97;exact TE
 ·clear hv;have HC:=zh hc;clear hc;go_enter Tryz.func97,Tryz.ntmps97;go_wp2_with fail;go_loopw [8] (fun i wr=>∃k:Nat,k<=l.length/\i=.int .i64 k/\(∀x,x∈l.take k->p x=false)/\Below w.heap.size w wr) (fun i _=>l.length-(intOf i).toNat)
  case atStart=>exact⟨0,Nat.zero_le _,rfl,VL,Below.refl _ _⟩
  case round=>
   obtain⟨k,hk,rfl,BX,rZ⟩:=hrel;have HN:=zh BX;clear BX;by_cases pT:k<l.length
   ·obtain⟨x,hx,ET⟩:=getElem?_of_lt pT;obtain⟨c1,c2,c3,c4,-⟩:=HC.out k x hx;have DZ:=aC rZ c1;have DY:=aC rZ c2;have QD:=aC rZ c3;have QC:=aC rZ c4;have HX:=zh hx;have qG:=zh (HP.out _ ET _ rZ);obtain⟨xv,kind,src,out,sorted⟩:=x;simp only at DZ DY QD QC;clear ET hx c1 c2 c3 c4 HC
    cases hq:p ⟨xv,kind,src,out,sorted⟩ with
    |true=>
     rw[hq] at qG;have HQ:=zh hq;clear hq;go_wp2_with(go_at_fn g;refine(qG.out).mono ?_;rintro e w' ⟨rfl,qU⟩);go_ret;exact⟨eW (idxOf_some (nZ HX.out HQ.out HN.out)).symm,aB rZ qU⟩
    |false=>
     rw[hq] at qG;have HQ:=zh hq;clear hq;go_wp2_with(go_at_fn g;refine(qG.out).mono ?_;rintro e w' ⟨rfl,qU⟩);go_roundw;(case rel=>exact⟨k+1,VG,VT,take_no HX.out HQ.out HN.out,aB rZ qU⟩);case measure=>simp[intOf];omega
   ·exact UJ
theorem lN(g:FuncId)(cap:Array Value)(p:Value×Stp->Bool)(l:List (Value×Stp))(v:Value)(w:World)(hv:lD w v l)
  (eg:∀args w,(callFunc g args).run Tryz.prog w=.ok (.enter g args) w) (hp:Tests Tryz.prog g cap stepV p l w):
  Calls Tryz.prog 90 #[v,.func (.func g) #[] cap] w fun e w'=>e=.returned (.bool (l.any p))/\Below w.heap.size w w':=by
 have h:=zh (indexFunc_stp g cap p l v w hv eg hp);have HA:=zh (idxOf_any p l);generalize lF p l=r at h HA;generalize l.any p=q at HA ⊢;clear hp hv eg;go_enter Tryz.func90,Tryz.ntmps90;go_wp2_with(go_at_call 97;refine h.out.mono ?_;rintro e w' ⟨rfl,qU⟩);go_ret;exact⟨aD HA.out,qU⟩
theorem TY{p:Prop}(h:p:=by
 cases a<;>go_wp2_with(first|(go_at_call 179;refine(h1.out _).mono ?_;rintro e w' ⟨rfl,rfl⟩)|(go_at_call 181;refine(h2.out _).mono ?_;rintro e w' ⟨rfl,rfl⟩));all_goals go_ret
 all_goals exact⟨aD hw.out.symm,rfl⟩):p:=h
theorem blank_any(c:UInt8)(w:World):Calls Tryz.prog 128 #[.int .u8 c.toNat] w fun e w'=>e=.returned (.bool (iW c))/\w'=w:=by
 go_enter Tryz.func128,Tryz.ntmps128
 go_wp2
 all_goals go_ret
 all_goals refine⟨aD ?_,rfl⟩
 all_goals unfold iW
 all_goals rw[Bool.eq_iff_iff]
 all_goals simp
 all_goals omega
theorem letter_any(c:UInt8)(w:World):Calls Tryz.prog 179 #[.int .u8 c.toNat] w fun e w'=>e=.returned (.bool (iX c))/\w'=w:=by
 go_enter Tryz.func179,Tryz.ntmps179
 go_wp2
 all_goals go_ret
 all_goals refine⟨aD ?_,rfl⟩
 all_goals unfold iX
 all_goals rw[Bool.eq_iff_iff]
 all_goals simp
 all_goals omega
theorem pH(c:UInt8)(w:World):Calls Tryz.prog 181 #[.int .u8 c.toNat] w fun e w'=>e=.returned (.bool (dA c))/\w'=w:=by
 go_enter Tryz.func181,Tryz.ntmps181
 go_wp2
 all_goals go_ret
 all_goals refine⟨aD ?_,rfl⟩
 all_goals unfold dA
 all_goals rw[Bool.eq_iff_iff]
 all_goals simp
 all_goals omega
theorem word1_any(c:UInt8)(w:World):Calls Tryz.prog 216 #[.int .u8 c.toNat] w fun e w'=>e=.returned (.bool (kH c))/\w'=w:=by
 have h1:=zh (letter_any c);have h2:=zh (pH c);have hw:=zh (show kH c=(iX c||dA c) from rfl);generalize iX c=a at h1 hw;generalize dA c=b at h2 hw;go_enter Tryz.func216,Tryz.ntmps216;exact TY
theorem lexnext1_any(c:UInt8)(w:World):Calls Tryz.prog 180 #[.int .u8 c.toNat] w fun e w'=>e=.returned (.bool (kH c))/\w'=w:=by
 have h1:=zh (letter_any c);have h2:=zh (pH c);have hw:=zh (show kH c=(iX c||dA c) from rfl);generalize iX c=a at h1 hw;generalize dA c=b at h2 hw;go_enter Tryz.func180,Tryz.ntmps180;exact TY
theorem spanN_hit{p:UInt8->Bool}:∀(l:List UInt8)(k:Nat),(∀x,x∈l.take k->p x=true)->k<=l.length->(∀x,l[k]? =some x->p x=false)->dI p l=k
 |[],k,_,h1,_=>by simp at h1;subst h1;rfl
 |x::l,0,_,_,h2=>by
  have:=h2 x rfl;simp[dI,this]
 |x::l,k+1,h0,h1,h2=>by
  have hx:=h0 x VL;have:=spanN_hit l k (fun y hy=>h0 y (by simp[hy])) (by simpa using h1) (fun y hy=>h2 y ZA);unfold dI at this ⊢;simp[hx,this]
theorem spanN_le(p:UInt8->Bool)(l:List UInt8):dI p l<=l.length:=(List.takeWhile_sublist _).length_le
theorem span_any(g:FuncId)(p:UInt8->Bool)(s:ByteArray)(w:World)(hs:s.size<=140737488355328)
  (eg:∀args w,(callFunc g args).run Tryz.prog w=.ok (.enter g args) w)
  (hp:∀c w,Calls Tryz.prog g #[.int .u8 (UInt8.toNat c)] w fun e w'=>e=.returned (.bool (p c))/\w'=w):
  Calls Tryz.prog 127 #[.string s,.func (.func g) #[] #[]] w fun e w'=>e=.returned (.int .i64 (dI p s.data.toList))/\w=w':=by
 have HP:=zh hp;clear hp;go_enter Tryz.func127,Tryz.ntmps127;go_wp2_with fail;go_loop [5] (fun i=>∃k:Nat,k<=s.size/\i=.int .i64 k/\Hid (∀x,x∈s.data.toList.take k->p x=true)) (fun i=>s.size-(intOf i).toNat)
 case atStart=>exact⟨0,Nat.zero_le _,rfl,zh VL⟩
 case round=>
  obtain⟨k,hk,rfl,HA⟩:=hrel;by_cases pT:k<s.size
  ·have HX:Hid (s.data.toList[k]? =some s[k]):=zh (by rw[List.getElem?_eq_getElem (by simpa using pT)];rfl);have qG:=zh (HP.out s[k])
   cases hq:p s[k] with
   |true=>
    rw[hq] at qG;have HQ:=zh hq;clear hq;go_wp2_with(go_at_fn g;refine(qG.out _).mono ?_;rintro e w' ⟨rfl,rfl⟩)
    go_round
    case rel=>
     refine⟨k+1,VG,VT,zh fun x hx=>?_⟩;rw[take_snoc s k pT,List.mem_append] at hx;rcases hx with hx|hx
     ·exact HA.out x hx
     ·simp at hx;rw[hx];exact HQ.out
    case measure=>simp[intOf];omega
   |false=>
    rw[hq] at qG;have HQ:=zh hq;clear hq;go_wp2_with(go_at_fn g;refine(qG.out _).mono ?_;rintro e w' ⟨rfl,rfl⟩);go_ret;exact⟨eW (by rw[spanN_hit _ k HA.out (by simpa using hk) (fun x hx=>by rw[HX.out] at hx;cases hx;exact HQ.out)]),rfl⟩
  ·go_wp2_with fail;go_ret;exact⟨eW (by rw[spanN_hit _ k HA.out (by simpa using hk) (fun x hx=>by rw[List.getElem?_eq_none VZ] at hx;cases hx)]),rfl⟩
theorem enters_blank:∀args w,(callFunc 128 args).run Tryz.prog w=.ok (.enter 128 args) w:=enters_of Tryz.func128 VH rfl
theorem enters_digit:∀args w,(callFunc 181 args).run Tryz.prog w=.ok (.enter 181 args) w:=enters_of Tryz.func181 VH rfl
theorem enters_word1:∀args w,(callFunc 216 args).run Tryz.prog w=.ok (.enter 216 args) w:=enters_of Tryz.func216 VH rfl
theorem enters_lexnext1:∀args w,(callFunc 180 args).run Tryz.prog w=.ok (.enter 180 args) w:=enters_of Tryz.func180 VH rfl
theorem SS{p:Prop}(h:p:=by
 clear qH;go_enter Tryz.func183,Tryz.ntmps183;go_wp2_with(go_at_call 127;refine xU.out.mono ?_;rintro e w' ⟨rfl,rfl⟩);go_loop [4,31] (fun n i=>∃k:Nat,k<=s.size/\i=.int .i64 k/\n=.int .i64 (jG (s.data.toList.take k))) (fun _ i=>s.size-(intOf i).toNat)
 case atStart=>exact⟨0,Nat.zero_le _,rfl,rfl⟩
 case round=>
  obtain⟨k,hk,rfl,rfl⟩:=hrel;by_cases pT:k<s.size
  ·have HN:Hid (jG (s.data.toList.take (k+1))=10*jG (s.data.toList.take k)+(s[k].toNat-48)):=zh (by rw[take_snoc s k pT,decOf_snoc])
   have hd1:48<=s[k].toNat/\s[k].toNat<=57:=by
    have:=List.all_eq_true.1 H1.out s[k] (by show s.data.toList[k]'(by simpa using pT)∈_;exact List.getElem_mem _);unfold dA at this;simpa using this
   have zL:=HD.out k hk;have HW3:=HN.out;have hcv:(s[k].toNat:Int)-48=((s[k].toNat-48:Nat):Int):=VG;generalize jG (s.data.toList.take k)=n at HN zL HW3 ⊢;go_wp2_with fail
   go_round
   (case rel=>exact⟨k+1,VG,VT,by rw[HN.out];go_num⟩);case measure=>simp[intOf];omega
  ·have KL:k=s.size:=VG;subst KL;have qP:s.data.toList.take s.size=s.data.toList:=List.take_of_length_le VL;rw[qP];clear HD qP;generalize jG s.data.toList=n at HB BF ⊢;have hn:=HB.out;by_cases hm:(1099511627776:Int)<(n:Int)
   ·go_wp2_with fail;go_ret2;exact⟨by rw[BF.out,if_neg VG];rfl,rfl⟩
   ·go_wp2_with fail;go_ret2
    exact⟨by rw[BF.out,if_pos VG];rfl,rfl⟩):p:=h
theorem T5{p:Prop}(h:p:=by
 go_enter Tryz.func183,Tryz.ntmps183;go_wp2_with(go_at_call 127;refine xU.out.mono ?_;rintro e w' ⟨rfl,rfl⟩);go_ret2
 exact⟨by rw[HW.out,H1.out,H2.out,decide_eq_false (show ¬s.size<=13 by omega)];rfl,rfl⟩):p:=h
theorem toList_nil{s:ByteArray}(h:s.size=0):s.toList=[]:=by rw[Lib.toList_data];exact List.eq_nil_of_length_eq_zero WI
theorem gT(s:ByteArray):s.size=s.data.toList.length:=VL
theorem toList_ne{s:ByteArray}(h:0<s.size):¬s.toList=[]:=fun e=>by rw[Lib.toList_data] at e;rw[gT,e] at h;exact absurd h VL
theorem mX{s:ByteArray}(h:0<s.size):∃r,s.data.toList=s[0]::r:=by
 cases hh:s.data.toList with
 |nil=>rw[gT,hh] at h;exact absurd h VL
 |cons c r=>
  refine⟨r,?_⟩;have:s[0]=s.data.toList[0]'(by rw[hh];simp):=rfl;rw[this];simp[hh]
theorem spanN_all{p:UInt8->Bool}:∀(l:List UInt8),decide (dI p l=l.length)=l.all p
 |[]=>rfl
 |x::l=>by
  have:=spanN_all (p:=p) l;unfold dI at this ⊢
  cases hx:p x with
  |false=>simp[hx]
  |true=>simp[hx];simpa using this
theorem nat_beq(a b:Nat):((a:Int)==(b:Int))=decide (a=b):=WC
theorem word_any(s:ByteArray)(w:World)(hs:s.size<=140737488355328):Calls Tryz.prog 182 #[.string s] w fun e w'=>e=.returned (.bool (kC s))/\w=w':=by
 have xU:=zh (span_any 216 kH s w hs enters_word1 word1_any);by_cases h0:s.size=0
 ·have h1:=toList_nil h0;have HW:Hid (kC s=false):=zh (by unfold kC;rw[<-Lib.toList_data,h1]);go_enter Tryz.func182,Tryz.ntmps182;go_wp2_with fail;go_ret;exact⟨aD HW.out.symm,rfl⟩
 ·have rL:0<s.size:=VG;have h1:=toList_ne rL;have hE:s.toList.isEmpty=false:=by cases hh:s.toList with|nil=>exact absurd hh h1|cons=>rfl
  obtain⟨r,hr⟩:=mX rL
  have HW:Hid (kC s=(iX s[0]&&decide (s.size<=20)&&decide (dI kH s.data.toList=s.size))):=zh (by
   rw[show decide (dI kH s.data.toList=s.size)=s.data.toList.all kH by rw[gT s,spanN_all]];unfold kC;rw[hr])
  have HL:=zh (letter_any s[0] w);clear hr;generalize iX s[0]=a at HW HL
  cases a with
  |false=>
   go_enter Tryz.func182,Tryz.ntmps182;go_wp2_with(go_at_call 179;refine HL.out.mono ?_;rintro e w' ⟨rfl,rfl⟩);go_ret;exact⟨aD (by rw[HW.out];rfl),rfl⟩
  |true=>
   by_cases h20:(20:Int)<(s.size:Int)
   ·go_enter Tryz.func182,Tryz.ntmps182;go_wp2_with(go_at_call 179;refine HL.out.mono ?_;rintro e w' ⟨rfl,rfl⟩);go_ret;exact⟨aD (by rw[HW.out,decide_eq_false VG];rfl),rfl⟩
   ·go_enter Tryz.func182,Tryz.ntmps182;go_wp2_with(first|(go_at_call 179;refine HL.out.mono ?_;rintro e w' ⟨rfl,rfl⟩)|(go_at_call 127;refine xU.out.mono ?_;rintro e w' ⟨rfl,rfl⟩));go_ret;exact⟨aD (by rw[HW.out,decide_eq_true (show s.size<=20 by omega),nat_beq];rfl),rfl⟩
theorem beq_zero(s:ByteArray):(s.toList==[48])=decide (s=⟨#[48]⟩):=by
 have h:(⟨#[48]⟩:ByteArray).toList=[48]:=by rw[Lib.toList_data]
 rw[Bool.eq_iff_iff];simp only[beq_iff_eq,decide_eq_true_eq];constructor
 ·intro e;rw[Lib.toList_data] at e;cases s with|mk d=>cases d;simp at e;subst e;rfl
 ·intro e;rw[e,h]
theorem decOf_snoc(l:List UInt8)(c:UInt8):jG (l++[c])=10*jG l+(c.toNat-48):=by unfold jG;rw[List.foldl_append];rfl
theorem decOf_go:∀(l:List UInt8)(n k:Nat),l.all dA=true->n<10 ^ k->l.foldl (fun n c=>10*n+(c.toNat-48)) n<10 ^ (k+l.length)
 |[],n,k,_,h=>WI
 |c::l,n,k,ha,h=>by
  simp only[List.all_cons,Bool.and_eq_true] at ha;have hc:c.toNat<=57:=by have:=ha.1;unfold dA at this;simp at this;omega
  have:=decOf_go l (10*n+(c.toNat-48)) (k+1) ha.2 (by rw[Nat.pow_succ];omega);simp only[List.foldl_cons,List.length_cons];rw[show k+(l.length+1)=k+1+l.length by omega];exact this
theorem decOf_lt(l:List UInt8)(h:l.all dA=true):jG l<10 ^ l.length:=by
 have:=decOf_go l 0 0 h VI;simpa[jG] using this
theorem all_take{p:UInt8->Bool}{l:List UInt8}(h:l.all p=true)(k:Nat):(l.take k).all p=true:=by
 rw[List.all_eq_true] at h ⊢;exact fun x hx=>h x (List.mem_of_mem_take hx)
abbrev tokV(k:Int)(t:ByteArray)(n pos:Int):Value:=.agg #[.int .i64 k,.string t,.int .i64 n,.int .i64 pos]
def numV(r:Option Nat):Value:=match r with|some n=>.tuple #[.int .i64 n,.bool true]|none=>.tuple #[.int .i64 0,.bool false]
theorem number_any(s:ByteArray)(w:World)(hs:s.size<=140737488355328):Calls Tryz.prog 183 #[.string s] w fun e w'=>e=.returned (numV (jE s))/\w=w':=by
 have xU:=zh (span_any 181 dA s w hs enters_digit pH);by_cases h0:s.size=0
 ·have h1:=toList_nil h0;have HW:Hid (jE s=none):=zh (by unfold jE;rw[<-Lib.toList_data,h1]);go_enter Tryz.func183,Tryz.ntmps183;go_wp2_with fail;go_ret2;exact⟨by rw[HW.out];rfl,rfl⟩
 ·have rL:0<s.size:=VG;have h1:=toList_ne rL;obtain⟨r,hr⟩:=mX rL;have hz:=beq_zero s
  have HA:Hid (decide (dI dA s.data.toList=s.size)=s.data.toList.all dA):=zh (by
   rw[gT s,spanN_all])
  have HW:Hid (jE s=if s.data.toList.all dA&& !(decide (s[0].toNat=48)&&decide (s.size≠1))&&decide (s.size<=13)&&decide (jG s.data.toList<=1099511627776) then some (jG s.data.toList) else none):=zh (by
   unfold jE;rw[hr])
  clear hr;have hE:s.toList.isEmpty=false:=by cases hh:s.toList with|nil=>exact absurd hh h1|cons=>rfl
  have rH:∀v,(s.data.toList.all dA&& !(decide (s[0].toNat=48)&&decide (s.size≠1))&&decide (s.size<=13))=false->v=numV none->v=numV (jE s):=by
   intro v h e;rw[HW.out,h,e];rfl
  by_cases g1:dI dA s.data.toList=s.size
  ·have H1:Hid (s.data.toList.all dA=true):=zh (by rw[<-HA.out,decide_eq_true g1]);rw[g1] at xU;by_cases g2:s[0].toNat=48/\s.size≠1
   ·have hc:(s[0].toNat:Int)=48:=VG;(have qH:¬s.toList=[48]:=fun e=>by rw[Lib.toList_data] at e;have:=gT s;rw[e] at this;exact g2.2 YK);have g:=zh g2;clear g2 hz;go_enter Tryz.func183,Tryz.ntmps183;go_wp2_with(go_at_call 127;refine xU.out.mono ?_;rintro e w' ⟨rfl,rfl⟩);go_ret2;exact⟨by rw[HW.out,H1.out,decide_eq_true g.out.1,decide_eq_true g.out.2];rfl,rfl⟩
   ·have qH:(s[0].toNat:Int)=48->s.toList=[48]:=by
     intro e;have e1:s.size=1:=VG;obtain⟨r,hr⟩:=mX rL;(have e2:r=[]:=by have:=gT s;rw[hr] at this;simp at this;exact List.eq_nil_of_length_eq_zero VG);rw[Lib.toList_data,hr,e2];congr 1;exact UInt8.toNat_inj.1 (by rw[show(48:UInt8).toNat=48 from rfl];omega)
    have H2:Hid ((!(decide (s[0].toNat=48)&&decide (s.size≠1)))=true):=zh (by
     rw[Bool.not_eq_true',Bool.and_eq_false_iff,decide_eq_false_iff_not,decide_eq_false_iff_not];omega)
    clear hz g2;by_cases g3:(13:Int)<(s.size:Int)
    ·by_cases hc:(s[0].toNat:Int)=48
     ·have:=qH hc;exact T5
     ·clear qH;exact T5
    ·have qX:(s.size:Int)<=13:=VG;have HB:Hid (jG s.data.toList<10 ^ 13):=zh (Nat.lt_of_lt_of_le (decOf_lt _ H1.out) (Nat.pow_le_pow_right VI (by rw[<-gT];omega)))
     have HD:∀k,k<=s.size->jG (s.data.toList.take k)<10 ^ 13:=fun k hk=>
      Nat.lt_of_lt_of_le (decOf_lt _ (all_take H1.out k)) (Nat.pow_le_pow_right VI (by rw[List.length_take];omega))
     have HD:=zh HD
     have BF:Hid (jE s=if jG s.data.toList<=1099511627776 then some (jG s.data.toList) else none):=zh (by
      rw[HW.out,H1.out,H2.out,decide_eq_true (show s.size<=13 by omega)];simp)
     clear HW rH;by_cases hc:(s[0].toNat:Int)=48
     ·have yU:=qH hc;(have DE:(s.toList==[48])=true:=by rw[yU];rfl);exact SS
     ·(have rB:((s[0].toNat:Int)==48)=false:=by rw[beq_eq_false_iff_ne];exact hc);exact SS
  ·have H1:Hid (s.data.toList.all dA=false):=zh (by rw[<-HA.out,decide_eq_false g1]);have g1':((dI dA s.data.toList:Int)==(s.size:Int))=false:=VQ;go_enter Tryz.func183,Tryz.ntmps183;go_wp2_with(go_at_call 127;refine xU.out.mono ?_;rintro e w' ⟨rfl,rfl⟩);go_ret2;exact⟨by rw[HW.out,H1.out];rfl,rfl⟩
theorem kE(s:ByteArray)(i:Nat):(gW s i).size=s.size-i:=by unfold gW;rw[ByteArray.size_extract];omega
theorem headB_size'(s:ByteArray)(n:Nat)(h:n<=s.size):(jS s n).size=n:=by unfold jS;rw[ByteArray.size_extract];omega
theorem spanN_pos{p:UInt8->Bool}{s:ByteArray}(rL:0<s.size)(hp:p s[0]=true):1<=dI p s.data.toList:=by
 obtain⟨r,hr⟩:=mX rL;rw[hr];unfold dI;simp[hp]
theorem signs_size:∀x,x∈fO->1<=x.size/\x.size<=2:=by
 intro x hx;simp only[fO,List.mem_cons,List.not_mem_nil,or_false] at hx;rcases hx with h|h|h|h|h|h|h|h|h|h|h|h|h|h<;>subst h<;>decide
theorem nextTok_ok{s:ByteArray}(rL:0<s.size){k:Int}{t:ByteArray}{n:Int}(h:fU s=.ok (k,t,n)):k≠3/\1<=t.size/\t.size<=s.size:=by
 obtain⟨r,hr⟩:=mX rL
 have hN:fU s=if iX s[0] then(if kC (jS s (dI kH s.data.toList)) then .ok (0,jS s (dI kH s.data.toList),0) else .error 12)
  else if dA s[0] then(match jE (jS s (dI dA s.data.toList)) with
   |some n=>.ok (1,jS s (dI dA s.data.toList),n)
   |none=>.error 3)
  else match fO.find? (mQ s) with
   |some x=>.ok (2,x,0)
   |none=>.error 10:=by unfold fU;rw[hr];rfl
 rw[hN] at h;clear hN hr;have vF:∀p,dI p s.data.toList<=s.size:=fun p=>by rw[gT];exact spanN_le _ _
 split at h
 ·rename_i hl;split at h
  ·(injection h with h;injection h with h1 h2;injection h2 with h2 h3);subst h1 h2;rw[headB_size' _ _ (vF _)];exact⟨VI,spanN_pos rL (by unfold kH;rw[hl];rfl),vF _⟩
  ·cases h
 ·split at h
  ·rename_i hd;split at h
   ·(injection h with h;injection h with h1 h2;injection h2 with h2 h3);subst h1 h2;rw[headB_size' _ _ (vF _)];exact⟨VI,spanN_pos rL hd,vF _⟩
   ·cases h
  ·split at h
   ·rename_i x hx;(injection h with h;injection h with h1 h2;injection h2 with h2 h3);subst h1 h2;have h1:=signs_size _ (List.mem_of_find?_eq_some hx);have h2:=List.find?_some hx;refine⟨VI,h1.1,?_⟩;have:=(List.isPrefixOf_iff_prefix.1 h2).length_le;rw[gT,gT s];exact this
   ·cases h
theorem nextTok_err{s:ByteArray}{e:Int}(h:fU s=.error e):e≠0:=by
 unfold fU at h;split at h
 ·cases h;decide
 ·split at h
  ·split at h
   ·cases h
   ·cases h;decide
  ·split at h
   ·split at h
    ·cases h
    ·cases h;decide
   ·split at h
    ·cases h
    ·cases h;decide
structure TokOk (s:ByteArray) (l:List Tok):Prop where
 pos:0<l.length
 len:l.length<=s.size+1
 last:∀(k:Nat)(t:Tok),l[k]? =some t->t.kind≠3->k+1<l.length
 size:∀(t:Tok),t∈l->t.text.size<=s.size
theorem TokOk.of{s:ByteArray}{out:List Tok}{p:Int}(h1:out.length<=s.size)(h2:∀t,t∈out->t.kind≠3/\t.text.size<=s.size):TokOk s (out++[⟨3,⟨#[]⟩,0,p⟩]):=by
 refine⟨VL,VZ,fun k t hk pQ=>?_,fun t ht=>?_⟩
 ·have pT:=(List.getElem?_eq_some_iff.1 hk).1;rw[List.length_append,List.length_singleton] at pT ⊢;by_cases zN:k<out.length
  ·omega
  ·rw[List.getElem?_append_right VG,show k-out.length=0 by omega] at hk;cases hk;exact absurd rfl pQ
 ·rcases List.mem_append.1 ht with h|h
  ·exact(h2 t h).2
  ·rw[List.mem_singleton.1 h];exact Nat.zero_le _
section
variable {s:ByteArray} {f i:Nat} {out:List Tok}
theorem lexFrom_end(h:i+dI iW (gW s i).data.toList=s.size):iF s (f+1) i out=.ok (out++[⟨3,⟨#[]⟩,0,s.size⟩]):=by rw[iF,if_pos h]
theorem lexFrom_bad{e:Int}(h:¬i+dI iW (gW s i).data.toList=s.size)(hn:fU (gW s (i+dI iW (gW s i).data.toList))=.error e):
  iF s (f+1) i out=.error ((i+dI iW (gW s i).data.toList:Nat),e):=by rw[iF,if_neg h,hn]
theorem lexFrom_on{k n:Int}{t:ByteArray}(h:¬i+dI iW (gW s i).data.toList=s.size)(hn:fU (gW s (i+dI iW (gW s i).data.toList))=.ok (k,t,n)):
  iF s (f+1) i out=iF s f (i+dI iW (gW s i).data.toList+t.size) (out++[⟨k,t,n,(i+dI iW (gW s i).data.toList:Nat)⟩]):=by rw[iF,if_neg h,hn]
end
end Go.Proofs.YtacgopankhpnbaaGreatDoor
