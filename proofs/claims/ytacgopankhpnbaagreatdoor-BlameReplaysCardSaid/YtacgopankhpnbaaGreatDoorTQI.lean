/- Texts of this seat, joined. -/
import Derived.Test.YtacgopankhpnbaaGreatDoorTQB
import Derived.Test.YtacgopankhpnbaaGreatDoorTQD
set_option maxHeartbeats 1000000
set_option linter.unusedVariables false
set_option linter.unusedSimpArgs false
namespace Go.Proofs.YtacgopankhpnbaaGreatDoor
open Go.RowKit
theorem YV{p:Prop}(h:p:=by
 go_wp2_with fail;go_loop [8] (fun i=>i=.int .i64 0) (fun i=>0)
 case atStart=>rfl
 case round=>
  subst hrel;go_wp2_with fail;go_ret
  exact⟨rfl,Below.refl _ _⟩):p:=h
theorem Y1{p:Prop}(h:p:=by
 cases hq:p x with
 |true=>
  rw[hq] at tA;have HQ:=zh hq;clear hq;go_wp2_with(go_at_fn g;refine(tA.out).mono ?_;rintro e w' ⟨rfl,tO⟩);go_ret;exact⟨fU (nG (mG HX.out HQ.out HN.out)).symm,aB uZ tO⟩
 |false=>
  rw[hq] at tA;have HQ:=zh hq;clear hq;go_wp2_with(go_at_fn g;refine(tA.out).mono ?_;rintro e w' ⟨rfl,tO⟩);go_roundw;case rel=>exact⟨k+1,aAM,aAV,qF HX.out HQ.out HN.out,aB uZ tO⟩
  case measure=>simp[intOf];omega):p:=h
theorem aAe{p:Prop}(h:p:=by
 go_wp2_with fail;go_ret
 exact⟨fU (nH (mT aAM HN.out)).symm,uZ⟩):p:=h
theorem isName_bad(s:bA)(k:Nat)(h:k<s.size)(hb:(s[k].toNat:Int)<33\/126<(s[k].toNat:Int)):eV s=false:=by
 have hf:s.data.toList.all rL=false:=by
  rw[List.all_eq_false];refine⟨s[k],?_,?_⟩
  ·have:s[k]=s.data.toList[k]' aBn:=rfl;rw[this];exact List.getElem_mem _
  simp[rL];omega
 simp[eV,hf]
theorem isName_empty(s:bA)(h:s.toList=[]):eV s=false:=by simp[eV,h]
theorem isName_full(s:bA)(h:s.data.toList.all rL=true)(sC:¬s.toList=[]):eV s=decide (s.size<=20):=by
 have h2:s.toList.isEmpty=false:=by cases hh:s.toList with
  |nil=>exact absurd hh sC
  |cons=>rfl
 rw[eV,h,h2];simp
theorem notEmpty_and{s:bA}{a b:Bool}(h:¬s.toList=[])(e:a=b):(!s.toList.isEmpty&&a)=b:=by
 cases hh:s.toList with
 |nil=>exact absurd hh h
 |cons=>simpa using e
theorem isName_any(s:bA)(w:World)(hs:s.size<=140737488355328):
  Calls Tryz.prog 56 #[.string s] w fun e w'=>e=.returned (.bool (eV s))/\w=w':=by
 go_enter Tryz.func56,Tryz.ntmps56
 go_wp2
 go_loop [6] (fun i=>∃k:Nat,k<=s.size/\i=.int .i64 k/\(s.data.toList.take k).all rL=true) (fun i=>s.size-(intOf i).toNat)
 case atStart=>exact⟨0,Nat.zero_le _,rfl,rfl⟩
 case round=>
  obtain⟨k,hk,rfl,uF⟩:=hrel;have HA:=zh uF;clear uF
  go_wp2
  ·go_ret;exact⟨aF (isName_bad s k ‹_› ‹_›).symm,rfl⟩
  ·go_round
   (case rel=>exact⟨k+1,aAM,aAV,by rw[take_snoc s k ‹_›,List.all_append,HA.out];simp[rL];omega⟩);case measure=>simp[intOf];omega
  ·go_ret;exact⟨aF (isName_bad s k ‹_› (Or.inl ‹_›)).symm,rfl⟩
  ·go_ret;exact⟨aF (isName_empty s ‹_›).symm,rfl⟩
  have KO:k=s.size:=aAM;subst KO;go_ret;have h1:=HA.out;rw[List.take_of_length_le aAQ] at h1;exact⟨aF (by rw[isName_full s h1 ‹_›];exact notEmpty_and ‹_› aA0),rfl⟩
theorem right1_any(s:bA)(w:World)(hs:s.size<=140737488355328):
  Calls Tryz.prog 58 #[.string s] w fun e w'=>e=.returned (.bool (!eV s))/\w=w':=by
 go_enter Tryz.func58,Tryz.ntmps58;go_wp2_with(go_at_call 56;refine(isName_any _ _ hs).mono ?_;rintro e w' ⟨rfl,rfl⟩);go_ret;exact⟨rfl,rfl⟩
def Tests{α:Type}(P:Program)(g:FuncId)(cap:Array Value)(enc:α->Value)(p:α->Bool)(l:List α)(w:World):Prop:=
 ∀x,x∈l->∀W,Below w.heap.size w W->Calls P g (#[enc x]++cap) W fun e W'=>e=.returned (.bool (p x))/\Below W.heap.size W W'
theorem mG{α:Type}{p:α->Bool}{l:List α}{k:Nat}{x:α}(hx:l[k]? =some x)(hp:p x=true)(CN:∀y,y∈l.take k->p y=false):l.findIdx? p=some k:=by
 rw[List.findIdx?_eq_some_iff_getElem];obtain⟨h,rfl⟩:=Yb.1 hx;refine⟨h,hp,fun j hj=>?_⟩;have:=CN l[j] (by rw[List.mem_take_iff_getElem];exact⟨j,aAM,rfl⟩);simp[this]
theorem qF{α:Type}{p:α->Bool}{l:List α}{k:Nat}{x:α}(hx:l[k]? =some x)(hp:p x=false)(CN:∀y,y∈l.take k->p y=false):∀y,y∈l.take (k+1)->p y=false:=by
 intro y hy;rw[List.take_add_one,List.mem_append] at hy;rcases hy with hy|hy
 ·exact CN y hy
 rw[hx] at hy;simp at hy;rw[hy];exact hp
theorem mT{α:Type}{p:α->Bool}{l:List α}{k:Nat}(hk:l.length<=k)(CN:∀y,y∈l.take k->p y=false):l.findIdx? p=none:=by
 rw[List.findIdx?_eq_none_iff];intro x hx;rw[List.take_of_length_le hk] at CN;simp[CN x hx]
def kC{α:Type}(p:α->Bool)(l:List α):Int:=match l.findIdx? p with|some i=>(i:Int)|none=> -1
theorem nG{α:Type}{p:α->Bool}{l:List α}{k:Nat}(h:l.findIdx? p=some k):kC p l=k:=by unfold kC;rw[h]
theorem nH{α:Type}{p:α->Bool}{l:List α}(h:l.findIdx? p=none):kC p l= -1:=by unfold kC;rw[h]
theorem idxOf_any{α:Type}(p:α->Bool)(l:List α):decide (0<=kC p l)=l.any p:=by
 unfold kC
 cases h:l.findIdx? p with
 |none=>
  rw[List.findIdx?_eq_none_iff] at h;have:l.any p=false:=by rw[List.any_eq_false];intro x hx;simp[h x hx]
  rw[this];rfl
 |some i=>
  obtain⟨hi,hp,-⟩:=List.findIdx?_eq_some_iff_getElem.1 h;have:l.any p=true:=List.any_eq_true.2 ⟨_,List.getElem_mem hi,hp⟩;rw[this];simp
theorem indexFunc_str(g:FuncId)(cap:Array Value)(p:bA->Bool)(l:List bA)(v:Value)(w:World)(hv:Strs w v l)
  (eg:∀args w,(callFunc g args).run Tryz.prog w=.ok (.enter g args) w) (hp:Tests Tryz.prog g cap Value.string p l w):
  Calls Tryz.prog 88 #[v,.func (.func g) #[] cap] w fun e w'=>e=.returned (.int .i64 (kC p l))/\Below w.heap.size w w':=by
 have HP:=zh hp;clear hp;rcases hv.cases with⟨rfl,a,c,rfl⟩|⟨b,o,c,rfl,h0,h1,h2,hb,hc⟩
 ·clear hv;go_enter Tryz.func88,Tryz.ntmps88;exact YV
 clear hv;go_enter Tryz.func88,Tryz.ntmps88;go_wp2_with fail;go_loopw [8] (fun i wr=>∃k:Nat,k<=l.length/\i=.int .i64 k/\(∀x,x∈l.take k->p x=false)/\Below w.heap.size w wr) (fun i _=>l.length-(intOf i).toNat)
 case atStart=>exact⟨0,Nat.zero_le _,rfl,aAQ,Below.refl _ _⟩
 case round=>
  obtain⟨k,hk,rfl,CN,uZ⟩:=hrel;have HN:=zh CN;clear CN;by_cases sE:k<l.length
  ·obtain⟨x,hx,I7⟩:=getElem?_of_lt sE;have tH:=aC uZ (hc k x hx).1;have HX:=zh hx;have tA:=zh (HP.out _ I7 _ uZ);clear hc I7 hx;exact Y1
  exact aAe
theorem rU(g:FuncId)(cap:Array Value)(p:bA->Bool)(l:List bA)(v:Value)(w:World)(hv:Strs w v l)
  (eg:∀args w,(callFunc g args).run Tryz.prog w=.ok (.enter g args) w) (hp:Tests Tryz.prog g cap Value.string p l w):
  Calls Tryz.prog 57 #[v,.func (.func g) #[] cap] w fun e w'=>e=.returned (.bool (l.any p))/\Below w.heap.size w w':=by
 have h:=zh (indexFunc_str g cap p l v w hv eg hp);have HA:=zh (idxOf_any p l);generalize kC p l=r at h HA;generalize l.any p=q at HA ⊢;clear hp hv eg;go_enter Tryz.func57,Tryz.ntmps57;go_wp2_with(go_at_call 88;refine h.out.mono ?_;rintro e w' ⟨rfl,tO⟩);go_ret;exact⟨aF HA.out,tO⟩
theorem Z4{p:Prop}(h:p:=by
 go_wp2_with fail;go_ret
 exact⟨aF (bI _ _),(Below.refl _ _).alloc (Nat.le_refl _) _⟩):p:=h
theorem aAH{p:Prop}(h:p:=by
 obtain⟨a,c,hv,-⟩:=h;exact⟨a,c,hv⟩):p:=h
def encFil(_:World)(f:Fil)(cs:List Value):Prop:=cs=[.string f.name,.string f.text]/\f.name.size<=140737488355328/\f.text.size<=140737488355328
def jZ(w:World)(v:Value)(l:List Fil):Prop:=Row 2 encFil w v l
theorem jZ.later{w w':World}{v:Value}{l:List Fil}(hb:Below w.heap.size w w')(h:jZ w v l):jZ w' v l:=Row.later hb (fun _ _ h=>h) h
theorem jZ.cases{w:World}{v:Value}{l:List Fil}(h:jZ w v l):
  (l=[]/\∃a c,v=.slice a 0 c)\/(∃b o c,v=.slice (some ⟨b,o,none⟩) l.length c/\0<l.length/\l.length<=c/\c<=9223372036854775807/\b<w.heap.size/\
   ∀i f,l[i]? =some f->w.cell? ⟨b,o+i*2,none⟩=some (.string f.name)/\w.cell? ⟨b,o+i*2+1,none⟩=some (.string f.text)/\f.name.size<=140737488355328/\f.text.size<=140737488355328):=by
 rcases Row.cases h with h|⟨b,o,c,hv,h0,h1,h2,hb,hc⟩
 ·exact .inl h
 refine .inr ⟨b,o,c,hv,h0,h1,h2,hb,fun i x hx=>?_⟩;obtain⟨cs,⟨e,hs⟩,-,hj⟩:=hc i x hx;exact⟨hj 0 (.string x.name) (by rw[e];rfl),hj 1 (.string x.text) (by rw[e];rfl),hs⟩
theorem enters_isName:∀args w,(callFunc 58 args).run Tryz.prog w=.ok (.enter 58 args) w:=enters_of Tryz.func58 aAN rfl
theorem bW{w:World}{v:Value}{l:List bA}(h:Strs w v l):∃a c,v=.slice a l.length c:=by
 exact aAH
theorem toList_eq(s:bA):s.toList=s.data.toList:=Lib.toList_data s
theorem bI(a b:bA):(a.toList==b.toList)=decide (a=b):=by
 rw[toList_eq,toList_eq,Bool.eq_iff_iff];simp only[beq_iff_eq,decide_eq_true_eq];exact⟨fun h=>jA h,fun h=>by rw[h]⟩
theorem find1_any(name fn ft:bA)(b:Nat)(w:World)(hb:w.cell? ⟨b,0,none⟩=some (.string name)):
  Calls Tryz.prog 55 #[.agg #[.string fn,.string ft],.pointer (some ⟨b,0,none⟩)] w fun e w'=>e=.returned (.bool (decide (fn=name)))/\Below w.heap.size w w':=by
 have sE:=cT hb;go_enter Tryz.func55,Tryz.ntmps55;exact Z4
theorem indexFunc_fil(g:FuncId)(cap:Array Value)(p:Fil->Bool)(l:List Fil)(v:Value)(w:World)(hv:jZ w v l)
  (eg:∀args w,(callFunc g args).run Tryz.prog w=.ok (.enter g args) w) (hp:Tests Tryz.prog g cap (fun f:Fil=>.agg #[.string f.name,.string f.text]) p l w):
  Calls Tryz.prog 54 #[v,.func (.func g) #[] cap] w fun e w'=>e=.returned (.int .i64 (kC p l))/\Below w.heap.size w w':=by
 have HP:=zh hp;clear hp;rcases hv.cases with⟨rfl,a,c,rfl⟩|⟨b,o,c,rfl,h0,h1,h2,hb,hc⟩
 ·clear hv;go_enter Tryz.func54,Tryz.ntmps54;exact YV
 clear hv;go_enter Tryz.func54,Tryz.ntmps54;go_wp2_with fail;go_loopw [8] (fun i wr=>∃k:Nat,k<=l.length/\i=.int .i64 k/\(∀x,x∈l.take k->p x=false)/\Below w.heap.size w wr) (fun i _=>l.length-(intOf i).toNat)
 case atStart=>exact⟨0,Nat.zero_le _,rfl,aAQ,Below.refl _ _⟩
 case round=>
  obtain⟨k,hk,rfl,CN,uZ⟩:=hrel;have HN:=zh CN;clear CN;by_cases sE:k<l.length
  ·obtain⟨x,hx,I7⟩:=getElem?_of_lt sE;obtain⟨c1,c2,-,-⟩:=hc k x hx;have H9:=aC uZ c1;have H8:=aC uZ c2;have HX:=zh hx;have tA:=zh (HP.out _ I7 _ uZ);clear hc I7 hx c1 c2;exact Y1
  exact aAe
theorem ZI{p:Prop}(h:p:=by
 go_wp2_with fail;go_ret
 exact⟨rfl,aA _ _⟩):p:=h
theorem enters_find1:∀args w,(callFunc 55 args).run Tryz.prog w=.ok (.enter 55 args) w:=enters_of Tryz.func55 aAN rfl
def lI(l:List Fil)(name:bA):Value:=match aI l name with
 |some t=>.tuple #[.string t,.bool true]
 |none=>.tuple #[.string ByteArray.empty,.bool false]
theorem findFile_idx(l:List Fil)(name:bA):
  (kC (fun f:Fil=>decide (f.name=name)) l= -1/\aI l name=none)\/∃(k:Nat)(f:Fil),l[k]? =some f/\kC (fun f:Fil=>decide (f.name=name)) l=k/\aI l name=some f.text:=by
 unfold kC aI
 cases h:l.findIdx? (fun f:Fil=>decide (f.name=name)) with
 |none=>
  refine .inl ⟨rfl,?_⟩;rw[List.findIdx?_eq_none_iff] at h;rw[List.find?_eq_none.2 (fun x hx=>by simpa using h x hx)];rfl
 |some k=>
  obtain⟨hk,hp,CN⟩:=List.findIdx?_eq_some_iff_getElem.1 h;refine .inr ⟨k,l[k],List.getElem?_eq_getElem hk,rfl,?_⟩
  have:l.find? (fun f:Fil=>decide (f.name=name))=some l[k]:=by
   rw[List.find?_eq_some_iff_getElem];exact⟨hp,k,hk,rfl,fun j hj=>by simpa using CN j hj⟩
  rw[this];rfl
theorem find_any(l:List Fil)(v:Value)(name:bA)(w:World)(hv:jZ w v l):
  Calls Tryz.prog 21 #[v,.string name] w fun e w'=>e=.returned (lI l name)/\Below w.heap.size w w':=by
 have NE:∀W,Below w.heap.size w W->W.heap[w.heap.size]? =some (eP name)->Calls Tryz.prog 54 #[v,.func (.func 55) #[] #[.pointer (some ⟨w.heap.size,0,none⟩)]] W
   fun e w'=>e=.returned (.int .i64 (kC (fun f:Fil=>decide (f.name=name)) l))/\Below W.heap.size W w':=fun W hb hW=>
  indexFunc_fil _ _ _ l v W (hv.later hb) enters_find1 (fun x _ W' tO=>by
   have h0:W.cell? ⟨w.heap.size,0,none⟩=some (.string name):=by simp[World.cell?,hW]
   exact find1_any name x.name x.text w.heap.size W' (aC tO h0))
 have HI:=zh NE;clear NE;have wC:=findFile_idx l name;unfold lI;rcases wC with⟨hi,hf⟩|⟨k,f,hk,hi,hf⟩
 ·rw[hf];rw[hi] at HI;obtain⟨a,c,hv,-⟩:=hv;subst hv;clear hi hf;go_enter Tryz.func21,Tryz.ntmps21;go_wp2_with(go_at_call 54;refine(HI.out _ (aA _ _) (aH _ _)).mono ?_;rintro e w' ⟨rfl,tO⟩);go_ret2;exact⟨rfl,aB (aA _ _) tO⟩
 rcases hv.cases with⟨rfl,-⟩|⟨b,o,c,rfl,h0,h1,h2,hb,hc⟩
 ·simp at hk
 rw[hf];rw[hi] at HI;obtain⟨c1,c2,-,-⟩:=hc k f hk;have Q6:k<l.length:=(Yb.1 hk).1;clear hi hf hc hk c1 hv;go_enter Tryz.func21,Tryz.ntmps21;go_wp2_with(go_at_call 54;refine(HI.out _ (aA _ _) (aH _ _)).mono ?_;rintro e w' ⟨rfl,tO⟩;have tU:=aC (aB (aA _ _) tO) c2);go_ret2;exact⟨rfl,aB (aA _ _) tO⟩
noncomputable def nP (l:List bA) (x:bA):Option Bool:=if l.any (fun y=>decide (y=x)) then some true else none
theorem mR(l:List bA)(x:bA):(nP l x).getD false=l.any (fun y=>decide (y=x)):=by
 unfold nP;cases h:l.any (fun y=>decide (y=x))<;>simp
theorem zero_bool(w:World):(zeroValue 4).run Tryz.prog w=.ok (.bool false) w:=aAN
noncomputable def eQ:KeyC Tryz.prog 9 bA:=strKey Tryz.underlying9
noncomputable def dS:ValC Tryz.prog 4 Bool:=boolVal Tryz.underlying4 zero_bool
theorem gO:(140737488355328:Nat)<=maxLen:=aAO
theorem bR{ops:Array Oper}{rest:List Oper}{o:Oper}{a:Act}{Q:Exit->Act->World->Prop}{w:World}{b n:Nat}{m:bA->Option Bool}(h:aX eQ dS w b n m)
  {x:bA} (hx:x.size<=140737488355328) {r:Bool} (hr:(m x).getD false=r) {mo xo:Operand} (hg:o.guard=none) (vG:o.op=Op.lookup 99 mo xo false) (hm:a.eval mo=.map (some b)) (MH:a.eval xo=.string x)
  (hK:wpList Tryz.prog ops Q rest (a.put o.dst (.bool r)) w):wpList Tryz.prog ops Q (o::rest) a w:=
 wpList_look (K:=eQ) (V:=dS) hg vG Tryz.underlying99 h hm (Nat.le_trans hx gO) MH (by subst hr;exact hK)
theorem lE{ops:Array Oper}{rest:List Oper}{o:Oper}{a:Act}{Q:Exit->Act->World->Prop}{w:World}{b n:Nat}{m:bA->Option Bool}(h:aX eQ dS w b n m)(hn:n<9223372036854775807)
  {x:bA} (hx:x.size<=140737488355328) {r:Bool} {mo xo vo:Operand} (hg:o.guard=none) (vG:o.op=Op.mapUpdate 99 mo xo vo) (hm:a.eval mo=.map (some b)) (MH:a.eval xo=.string x) (hve:a.eval vo=.bool r)
  (hK:∀w',aX eQ dS w' b (n+1) (fun z=>if z=x then some r else m z)->w.grownBy w' (some b)->wpList Tryz.prog ops Q rest (a.put o.dst undef) w'):wpList Tryz.prog ops Q (o::rest) a w:=
 wpList_put (K:=eQ) (V:=dS) hg vG Tryz.underlying99 h aAY hm (Nat.le_trans hx gO) MH (y:=r) trivial hve (fun w' h1 h2=>hK w' (by exact h1.ext (fun z=>by by_cases hz:z=x<;>simp[hz])) h2)
theorem oM(l:List bA)(y:bA):(fun z=>if z=y then some true else nP l z)=nP (y::l):=by
 funext z;unfold nP;by_cases h:z=y
 ·subst h;simp
 have:decide (y=z)=false:=decide_eq_false (fun e=>h e.symm);simp only[h,if_false,List.any_cons,this,Bool.false_or]
theorem qS{l:List Fil}{k:Nat}{x:Fil}{known:List bA}(hx:l[k]? =some x)(h:(known.any fun y=>decide (y=x.name))=true\/eV x.name=false\/65536<x.text.size)
  (hr:dQ l []=dQ (l.drop k) known):aT l=false:=by
 have e:l.drop k=x::l.drop (k+1):=by
  obtain⟨hk,rfl⟩:=Yb.1 hx;exact List.drop_eq_getElem_cons hk
 rw[aT,hr,e,dQ];rcases h with h|h|h<;>simp[h]
theorem rightFrom_good{l:List Fil}{k:Nat}{x:Fil}{known:List bA}(hx:l[k]? =some x)(h1:(known.any fun y=>decide (y=x.name))=false)(h2:eV x.name=true)(h3:x.text.size<=65536)
  (hr:dQ l []=dQ (l.drop k) known):dQ l []=dQ (l.drop (k+1)) (x.name::known):=by
 have e:l.drop k=x::l.drop (k+1):=by
  obtain⟨hk,rfl⟩:=Yb.1 hx;exact List.drop_eq_getElem_cons hk
 rw[hr,e,dQ,h1,h2];simp;omega
theorem rightFrom_end{l:List Fil}{k:Nat}{known:List bA}(hk:l.length<=k)(hr:dQ l []=dQ (l.drop k) known):aT l=decide (l.length<=60):=by
 rw[aT,hr,List.drop_of_length_le hk,dQ];simp
theorem iT(l:List Fil)(v:Value)(w:World)(hv:jZ w v l):
  Calls Tryz.prog 51 #[v] w fun e w'=>e=.returned (.bool (aT l))/\Below w.heap.size w w':=by
 rcases hv.cases with⟨rfl,a,c,rfl⟩|⟨b,o,c,rfl,h0,h1,h2,hb,hc⟩
 ·have yV:=@run_makeMap Tryz.prog;clear hv;go_enter Tryz.func51,Tryz.ntmps51;go_wp2_with fail;go_loop [9] (fun i=>i=.int .i64 0) (fun i=>0)
  case atStart=>rfl
  case round=>
   subst hrel;exact ZI
 have yV:=@run_makeMap Tryz.prog;clear hv;have HC:=zh hc;clear hc;go_enter Tryz.func51,Tryz.ntmps51;go_wp2_with fail;clear yV;go_loopw [9] (fun i wr=>∃(k:Nat)(known:List bA),k<=l.length/\i=.int .i64 k/\dQ l []=dQ (l.drop k) known/\aX eQ dS wr w.heap.size k (nP known)/\Below w.heap.size w wr) (fun i _=>l.length-(intOf i).toNat)
 case atStart=>exact⟨0,[],Nat.zero_le _,rfl,rfl,(aX.made w).ext (fun _=>rfl),aA _ _⟩
 case round=>
  obtain⟨k,known,hk,rfl,hr,hm,uZ⟩:=hrel;have HR:=zh hr;clear hr;have TT:w.heap.size<wr.heap.size:=hm.lt;by_cases sE:k<l.length
  ·obtain⟨x,hx,-⟩:=getElem?_of_lt sE;obtain⟨c1,c2,s1,s2⟩:=HC.out k x hx;have H9:=aC uZ c1;have H8:=aC uZ c2;have HX:=zh hx;clear hx c1 c2 HC
   cases hq:known.any (fun y=>decide (y=x.name)) with
   |true=>
    have hl:=(mR known x.name).trans hq;have HQ:=zh hq;clear hq;have HL:=zh hl;clear hl;go_wp2_with(at_lookup;refine bR (hm.alloc _) s1 HL.out rfl rfl rfl rfl ?_);go_ret;exact⟨aF (qS HX.out (.inl HQ.out) HR.out).symm,uZ.trans ((aA _ _).mono uZ.size)⟩
   |false=>
    have hl:=(mR known x.name).trans hq;have HQ:=zh hq;clear hq;have HL:=zh hl;clear hl
    cases hn:eV x.name with
    |false=>
     have tA:=isName_any x.name (wr.alloc (pJ x.name x.text)) s1;rw[hn] at tA;have HN:=zh hn;clear hn;have HCL:=zh tA;clear tA;go_wp2_with(first|(at_lookup;refine bR (hm.alloc _) s1 HL.out rfl rfl rfl rfl ?_)|(go_at_call 56;refine HCL.out.mono ?_;rintro e w' ⟨rfl,rfl⟩));go_ret;exact⟨aF (qS HX.out (.inr (.inl HN.out)) HR.out).symm,uZ.trans ((aA _ _).mono uZ.size)⟩
    |true=>
     have tA:=isName_any x.name (wr.alloc (pJ x.name x.text)) s1;rw[hn] at tA;have HN:=zh hn;clear hn;have HCL:=zh tA;clear tA;go_wp2_with(first|(at_lookup;refine bR (hm.alloc _) s1 HL.out rfl rfl rfl rfl ?_)|(go_at_call 56;refine HCL.out.mono ?_;rintro e w' ⟨rfl,rfl⟩)|(at_mapUpdate;refine lE (hm.alloc _) aAM s1 rfl rfl rfl rfl rfl ?_;intro w1 zQ H6))
     ·go_ret;exact⟨aF (qS HX.out (.inr (.inr aAM)) HR.out).symm,uZ.trans ((aA _ _).mono uZ.size)⟩
     go_roundw;(case rel=>exact⟨k+1,x.name::known,aAM,aAV,rightFrom_good HX.out HQ.out HN.out aAM HR.out,zQ.ext (fun z=>congrFun (oM known x.name) z),(uZ.trans ((aA _ _).mono uZ.size)).grown H6 aA0 (fun i hi=>by cases hi;exact Nat.le_refl _)⟩);case measure=>simp[intOf];omega
  go_wp2_with fail;go_ret;exact⟨aF (by rw[rightFrom_end aAM HR.out];simp;omega),uZ⟩
theorem jT(s:Stp)(vf:Value)(w:World)(hv:Strs w vf s.src)(QL:s.out.size<=140737488355328):
  Calls Tryz.prog 24 #[nY s.kind vf s.out s.sorted] w fun e w'=>e=.returned (.bool (aM s))/\Below w.heap.size w w':=by
 obtain⟨kind,src,tn,sorted⟩:=s;simp only at hv QL ⊢
 have hC:∀W,Below w.heap.size w W->Calls Tryz.prog 57 #[vf,.func (.func 58) #[] #[]] W fun e w'=>e=.returned (.bool (src.any fun x=> !eV x))/\Below W.heap.size W w':=fun W hb=>
  rU _ _ _ src vf W (hv.later hb) enters_isName (fun x hx W' tO=>by
   refine(right1_any x W' (lZ hv hx)).mono ?_;rintro e w' ⟨rfl,rfl⟩
   exact⟨rfl,Below.refl _ _⟩)
 have hN:∀W,Calls Tryz.prog 56 #[.string tn] W fun e w'=>e=.returned (.bool (eV tn))/\W=w':=fun W=>isName_any tn W QL;obtain⟨a,c,KA,-⟩:=hv;subst KA;have HC:=zh hC;clear hC;have HN:=zh hN;clear hN
 have hR:aM ⟨kind,src,tn,sorted⟩=if(!eV tn||src.any fun x=> !eV x) then false else if kind=2 then decide (src.length<=60)
   else if kind=1 then decide (src.length<=60)&& !sorted else if kind=0\/kind=3\/kind=4\/kind=5 then decide (src.length=1)&& !sorted else false:=rfl
 have HR:=zh hR;clear hR;generalize aM ⟨kind,src,tn,sorted⟩=R at HR ⊢;generalize hi:eV tn=ni at HN HR ⊢;generalize ha:(src.any fun x=> !eV x)=na at HC HR ⊢;clear hi ha
 cases ni with
 |false=>
  clear HC;go_enter Tryz.func24,Tryz.ntmps24;go_wp2_with(go_at_call 56;refine(HN.out _).mono ?_;rintro e w' ⟨rfl,rfl⟩);go_ret;exact⟨aF aBr,aA _ _⟩
 |true=>
  cases na with
  |true=>
   go_enter Tryz.func24,Tryz.ntmps24;go_wp2_with(first|(go_at_call 56;refine(HN.out _).mono ?_;rintro e w' ⟨rfl,rfl⟩)|(go_at_call 57;refine(HC.out _ (aA _ _)).mono ?_;rintro e w' ⟨rfl,tO⟩));go_ret;exact⟨aF aBr,aB (aA _ _) tO⟩
  |false=>
   by_cases k2:kind=2
   ·subst k2;go_enter Tryz.func24,Tryz.ntmps24;go_wp2_with(first|(go_at_call 56;refine(HN.out _).mono ?_;rintro e w' ⟨rfl,rfl⟩)|(go_at_call 57;refine(HC.out _ (aA _ _)).mono ?_;rintro e w' ⟨rfl,tO⟩;obtain⟨RE,LO⟩:=bcell tO));go_ret;exact⟨aF (by rw[HR.out];simp;omega),aB (aA _ _) tO⟩
   by_cases k1:kind=1
   ·subst k1;go_enter Tryz.func24,Tryz.ntmps24;go_wp2_with(first|(go_at_call 56;refine(HN.out _).mono ?_;rintro e w' ⟨rfl,rfl⟩)|(go_at_call 57;refine(HC.out _ (aA _ _)).mono ?_;rintro e w' ⟨rfl,tO⟩;obtain⟨RE,LO⟩:=bcell tO));(all_goals go_ret);all_goals exact⟨aF (by rw[HR.out];simp;try omega),aB (aA _ _) tO⟩
   have HK2:=zh k2;have HK1:=zh k1;(have b2:(kind==2)=false:=by simpa using k2);(have b1:(kind==1)=false:=by simpa using k1);clear k2 k1;by_cases kx:kind=0\/kind=3\/kind=4\/kind=5
   ·have HKX:=zh kx;by_cases hl:src.length=1
    ·(have bl:(((src.length:Nat):Int)==1)=true:=by simp[hl]);have HL:=zh hl;clear hl;rcases kx with rfl|rfl|rfl|rfl
     all_goals
      clear b2 b1;go_enter Tryz.func24,Tryz.ntmps24;go_wp2_with(first|(go_at_call 56;refine(HN.out _).mono ?_;rintro e w' ⟨rfl,rfl⟩)|(go_at_call 57;refine(HC.out _ (aA _ _)).mono ?_;rintro e w' ⟨rfl,tO⟩;obtain⟨RE,LO⟩:=bcell tO));go_ret;exact⟨aF (by rw[HR.out,HL.out];rfl),aB (aA _ _) tO⟩
    have bl:(((src.length:Nat):Int)==1)=false:=aAW;have HL:=zh hl;clear hl;rcases kx with rfl|rfl|rfl|rfl
    all_goals
     clear b2 b1;go_enter Tryz.func24,Tryz.ntmps24;go_wp2_with(first|(go_at_call 56;refine(HN.out _).mono ?_;rintro e w' ⟨rfl,rfl⟩)|(go_at_call 57;refine(HC.out _ (aA _ _)).mono ?_;rintro e w' ⟨rfl,tO⟩;obtain⟨RE,LO⟩:=bcell tO));go_ret;exact⟨aF (by rw[HR.out,decide_eq_false HL.out];rfl),aB (aA _ _) tO⟩
   have HKX:=zh kx;have b0:(kind==0)=false:=aAW;have b3:(kind==3)=false:=aAW;have b4:(kind==4)=false:=aAW;have b5:(kind==5)=false:=aAW;clear kx;go_enter Tryz.func24,Tryz.ntmps24;go_wp2_with(first|(go_at_call 56;refine(HN.out _).mono ?_;rintro e w' ⟨rfl,rfl⟩)|(go_at_call 57;refine(HC.out _ (aA _ _)).mono ?_;rintro e w' ⟨rfl,tO⟩;obtain⟨RE,LO⟩:=bcell tO));go_ret;exact⟨aF (by rw[HR.out,if_neg HK2.out,if_neg HK1.out,if_neg HKX.out];rfl),aB (aA _ _) tO⟩
def encStp(w:World)(y:Value×Stp)(cs:List Value):Prop:=cs=[.int .i64 y.2.kind,y.1,.string y.2.out,.bool y.2.sorted]/\Strs w y.1 y.2.src/\y.2.out.size<=140737488355328
def pZ(w:World)(v:Value)(l:List (Value×Stp)):Prop:=Row 4 encStp w v l
theorem pZ.later{w w':World}{v:Value}{l:List (Value×Stp)}(hb:Below w.heap.size w w')(h:pZ w v l):pZ w' v l:=
 Row.later hb (fun _ _ h=>⟨h.1,h.2.1.later hb,h.2.2⟩) h
theorem pZ.cases{w:World}{v:Value}{l:List (Value×Stp)}(h:pZ w v l):
  (l=[]/\∃a c,v=.slice a 0 c)\/(∃b o c,v=.slice (some ⟨b,o,none⟩) l.length c/\0<l.length/\l.length<=c/\c<=9223372036854775807/\b<w.heap.size/\
   ∀i y,l[i]? =some y->w.cell? ⟨b,o+i*4,none⟩=some (.int .i64 y.2.kind)/\w.cell? ⟨b,o+i*4+1,none⟩=some y.1/\w.cell? ⟨b,o+i*4+2,none⟩=some (.string y.2.out)/\w.cell? ⟨b,o+i*4+3,none⟩=some (.bool y.2.sorted)/\Strs w y.1 y.2.src/\y.2.out.size<=140737488355328):=by
 rcases Row.cases h with h|⟨b,o,c,hv,h0,h1,h2,hb,hc⟩
 ·exact .inl h
 refine .inr ⟨b,o,c,hv,h0,h1,h2,hb,fun i y hy=>?_⟩;obtain⟨cs,⟨e,hs,hz⟩,-,hj⟩:=hc i y hy;subst e;exact⟨hj 0 _ rfl,hj 1 _ rfl,hj 2 _ rfl,hj 3 _ rfl,hs,hz⟩
theorem pZ.src{w:World}{v:Value}{l:List (Value×Stp)}(h:pZ w v l){y:Value×Stp}(hy:y∈l):Strs w y.1 y.2.src/\y.2.out.size<=140737488355328:=by
 rcases h.cases with⟨rfl,-⟩|⟨b,o,c,-,-,-,-,-,hc⟩
 ·cases hy
 obtain⟨i,hi⟩:=List.getElem?_of_mem hy;exact(hc i y hi).2.2.2.2
theorem stps_slice{w:World}{v:Value}{l:List (Value×Stp)}(h:pZ w v l):∃a c,v=.slice a l.length c:=by
 exact aAH
abbrev stepV(y:Value×Stp):Value:=nY y.2.kind y.1 y.2.out y.2.sorted
theorem indexFunc_stp(g:FuncId)(cap:Array Value)(p:Value×Stp->Bool)(l:List (Value×Stp))(v:Value)(w:World)(hv:pZ w v l)
  (eg:∀args w,(callFunc g args).run Tryz.prog w=.ok (.enter g args) w) (hp:Tests Tryz.prog g cap stepV p l w):
  Calls Tryz.prog 97 #[v,.func (.func g) #[] cap] w fun e w'=>e=.returned (.int .i64 (kC p l))/\Below w.heap.size w w':=by
 have HP:=zh hp;clear hp;rcases hv.cases with⟨rfl,a,c,rfl⟩|⟨b,o,c,rfl,h0,h1,h2,hb,hc⟩
 ·clear hv;go_enter Tryz.func97,Tryz.ntmps97;exact YV
 clear hv;have HC:=zh hc;clear hc;go_enter Tryz.func97,Tryz.ntmps97;go_wp2_with fail;go_loopw [8] (fun i wr=>∃k:Nat,k<=l.length/\i=.int .i64 k/\(∀x,x∈l.take k->p x=false)/\Below w.heap.size w wr) (fun i _=>l.length-(intOf i).toNat)
 case atStart=>exact⟨0,Nat.zero_le _,rfl,aAQ,Below.refl _ _⟩
 case round=>
  obtain⟨k,hk,rfl,CN,uZ⟩:=hrel;have HN:=zh CN;clear CN;by_cases sE:k<l.length
  ·obtain⟨x,hx,I7⟩:=getElem?_of_lt sE;obtain⟨c1,c2,c3,c4,-⟩:=HC.out k x hx;have H9:=aC uZ c1;have H8:=aC uZ c2;have VP:=aC uZ c3;have VO:=aC uZ c4;have HX:=zh hx;have tA:=zh (HP.out _ I7 _ uZ);obtain⟨xv,kind,src,out,sorted⟩:=x;simp only at H9 H8 VP VO;clear I7 hx c1 c2 c3 c4 HC
   cases hq:p ⟨xv,kind,src,out,sorted⟩ with
   |true=>
    rw[hq] at tA;have HQ:=zh hq;clear hq;go_wp2_with(go_at_fn g;refine(tA.out).mono ?_;rintro e w' ⟨rfl,tO⟩);go_ret;exact⟨fU (nG (mG HX.out HQ.out HN.out)).symm,aB uZ tO⟩
   |false=>
    rw[hq] at tA;have HQ:=zh hq;clear hq;go_wp2_with(go_at_fn g;refine(tA.out).mono ?_;rintro e w' ⟨rfl,tO⟩);go_roundw;(case rel=>exact⟨k+1,aAM,aAV,qF HX.out HQ.out HN.out,aB uZ tO⟩);case measure=>simp[intOf];omega
  exact aAe
theorem nL(g:FuncId)(cap:Array Value)(p:Value×Stp->Bool)(l:List (Value×Stp))(v:Value)(w:World)(hv:pZ w v l)
  (eg:∀args w,(callFunc g args).run Tryz.prog w=.ok (.enter g args) w) (hp:Tests Tryz.prog g cap stepV p l w):
  Calls Tryz.prog 90 #[v,.func (.func g) #[] cap] w fun e w'=>e=.returned (.bool (l.any p))/\Below w.heap.size w w':=by
 have h:=zh (indexFunc_stp g cap p l v w hv eg hp);have HA:=zh (idxOf_any p l);generalize kC p l=r at h HA;generalize l.any p=q at HA ⊢;clear hp hv eg;go_enter Tryz.func90,Tryz.ntmps90;go_wp2_with(go_at_call 97;refine h.out.mono ?_;rintro e w' ⟨rfl,tO⟩);go_ret;exact⟨aF HA.out,tO⟩
theorem ZJ{p:Prop}(h:p:=by
 cases a<;>go_wp2_with(first|(go_at_call 179;refine(h1.out _).mono ?_;rintro e w' ⟨rfl,rfl⟩)|(go_at_call 181;refine(h2.out _).mono ?_;rintro e w' ⟨rfl,rfl⟩));all_goals go_ret
 all_goals exact⟨aF hw.out.symm,rfl⟩):p:=h
theorem blank_any(c:UInt8)(w:World):Calls Tryz.prog 128 #[.int .u8 c.toNat] w fun e w'=>e=.returned (.bool (jY c))/\w'=w:=by
 go_enter Tryz.func128,Tryz.ntmps128
 go_wp2
 all_goals go_ret
 all_goals refine⟨aF ?_,rfl⟩
 all_goals unfold jY
 all_goals rw[Bool.eq_iff_iff]
 all_goals simp
 all_goals omega
theorem letter_any(c:UInt8)(w:World):Calls Tryz.prog 179 #[.int .u8 c.toNat] w fun e w'=>e=.returned (.bool (kB c))/\w'=w:=by
 go_enter Tryz.func179,Tryz.ntmps179
 go_wp2
 all_goals go_ret
 all_goals refine⟨aF ?_,rfl⟩
 all_goals unfold kB
 all_goals rw[Bool.eq_iff_iff]
 all_goals simp
 all_goals omega
theorem rT(c:UInt8)(w:World):Calls Tryz.prog 181 #[.int .u8 c.toNat] w fun e w'=>e=.returned (.bool (dO c))/\w'=w:=by
 go_enter Tryz.func181,Tryz.ntmps181
 go_wp2
 all_goals go_ret
 all_goals refine⟨aF ?_,rfl⟩
 all_goals unfold dO
 all_goals rw[Bool.eq_iff_iff]
 all_goals simp
 all_goals omega
theorem word1_any(c:UInt8)(w:World):Calls Tryz.prog 216 #[.int .u8 c.toNat] w fun e w'=>e=.returned (.bool (lV c))/\w'=w:=by
 have h1:=zh (letter_any c);have h2:=zh (rT c);have hw:=zh (show lV c=(kB c||dO c) from rfl);generalize kB c=a at h1 hw;generalize dO c=b at h2 hw;go_enter Tryz.func216,Tryz.ntmps216;exact ZJ
theorem lexnext1_any(c:UInt8)(w:World):Calls Tryz.prog 180 #[.int .u8 c.toNat] w fun e w'=>e=.returned (.bool (lV c))/\w'=w:=by
 have h1:=zh (letter_any c);have h2:=zh (rT c);have hw:=zh (show lV c=(kB c||dO c) from rfl);generalize kB c=a at h1 hw;generalize dO c=b at h2 hw;go_enter Tryz.func180,Tryz.ntmps180;exact ZJ
theorem spanN_hit{p:UInt8->Bool}:∀(l:List UInt8)(k:Nat),(∀x,x∈l.take k->p x=true)->k<=l.length->(∀x,l[k]? =some x->p x=false)->dX p l=k
 |[],k,_,h1,_=>by simp at h1;subst h1;rfl
 |x::l,0,_,_,h2=>by
  have:=h2 x rfl;simp[dX,this]
 |x::l,k+1,h0,h1,h2=>by
  have hx:=h0 x aAQ;have:=spanN_hit l k (fun y hy=>h0 y (by simp[hy])) (by simpa using h1) (fun y hy=>h2 y aDe);unfold dX at this ⊢;simp[hx,this]
theorem spanN_le(p:UInt8->Bool)(l:List UInt8):dX p l<=l.length:=(List.takeWhile_sublist _).length_le
theorem span_any(g:FuncId)(p:UInt8->Bool)(s:bA)(w:World)(hs:s.size<=140737488355328)
  (eg:∀args w,(callFunc g args).run Tryz.prog w=.ok (.enter g args) w)
  (hp:∀c w,Calls Tryz.prog g #[.int .u8 (UInt8.toNat c)] w fun e w'=>e=.returned (.bool (p c))/\w'=w):
  Calls Tryz.prog 127 #[.string s,.func (.func g) #[] #[]] w fun e w'=>e=.returned (.int .i64 (dX p s.data.toList))/\w=w':=by
 have HP:=zh hp;clear hp;go_enter Tryz.func127,Tryz.ntmps127;go_wp2_with fail;go_loop [5] (fun i=>∃k:Nat,k<=s.size/\i=.int .i64 k/\Hid (∀x,x∈s.data.toList.take k->p x=true)) (fun i=>s.size-(intOf i).toNat)
 case atStart=>exact⟨0,Nat.zero_le _,rfl,zh aAQ⟩
 case round=>
  obtain⟨k,hk,rfl,HA⟩:=hrel;by_cases sE:k<s.size
  ·have HX:Hid (s.data.toList[k]? =some s[k]):=zh (by rw[List.getElem?_eq_getElem (by simpa using sE)];rfl);have tA:=zh (HP.out s[k])
   cases hq:p s[k] with
   |true=>
    rw[hq] at tA;have HQ:=zh hq;clear hq;go_wp2_with(go_at_fn g;refine(tA.out _).mono ?_;rintro e w' ⟨rfl,rfl⟩)
    go_round
    case rel=>
     refine⟨k+1,aAM,aAV,zh fun x hx=>?_⟩;rw[take_snoc s k sE,List.mem_append] at hx;rcases hx with hx|hx
     ·exact HA.out x hx
     simp at hx;rw[hx];exact HQ.out
    case measure=>simp[intOf];omega
   |false=>
    rw[hq] at tA;have HQ:=zh hq;clear hq;go_wp2_with(go_at_fn g;refine(tA.out _).mono ?_;rintro e w' ⟨rfl,rfl⟩);go_ret;exact⟨fU (by rw[spanN_hit _ k HA.out (by simpa using hk) (fun x hx=>by rw[HX.out] at hx;cases hx;exact HQ.out)]),rfl⟩
  go_wp2_with fail;go_ret;exact⟨fU (by rw[spanN_hit _ k HA.out (by simpa using hk) (fun x hx=>by rw[List.getElem?_eq_none aA0] at hx;cases hx)]),rfl⟩
theorem enters_blank:∀args w,(callFunc 128 args).run Tryz.prog w=.ok (.enter 128 args) w:=enters_of Tryz.func128 aAN rfl
theorem enters_digit:∀args w,(callFunc 181 args).run Tryz.prog w=.ok (.enter 181 args) w:=enters_of Tryz.func181 aAN rfl
theorem enters_word1:∀args w,(callFunc 216 args).run Tryz.prog w=.ok (.enter 216 args) w:=enters_of Tryz.func216 aAN rfl
theorem enters_lexnext1:∀args w,(callFunc 180 args).run Tryz.prog w=.ok (.enter 180 args) w:=enters_of Tryz.func180 aAN rfl
theorem X8{p:Prop}(h:p:=by
 clear sX;go_enter Tryz.func183,Tryz.ntmps183;go_wp2_with(go_at_call 127;refine DV.out.mono ?_;rintro e w' ⟨rfl,rfl⟩);go_loop [4,31] (fun n i=>∃k:Nat,k<=s.size/\i=.int .i64 k/\n=.int .i64 (kL (s.data.toList.take k))) (fun _ i=>s.size-(intOf i).toNat)
 case atStart=>exact⟨0,Nat.zero_le _,rfl,rfl⟩
 case round=>
  obtain⟨k,hk,rfl,rfl⟩:=hrel;by_cases sE:k<s.size
  ·have HN:Hid (kL (s.data.toList.take (k+1))=10*kL (s.data.toList.take k)+(s[k].toNat-48)):=zh (by rw[take_snoc s k sE,decOf_snoc])
   have hd1:48<=s[k].toNat/\s[k].toNat<=57:=by
    have:=List.all_eq_true.1 H1.out s[k] (by show s.data.toList[k]'(by simpa using sE)∈_;exact List.getElem_mem _);unfold dO at this;simpa using this
   have BE:=HD.out k hk;have HW3:=HN.out;have hcv:(s[k].toNat:Int)-48=((s[k].toNat-48:Nat):Int):=aAM;generalize kL (s.data.toList.take k)=n at HN BE HW3 ⊢;go_wp2_with fail
   go_round
   (case rel=>exact⟨k+1,aAM,aAV,by rw[HN.out];go_num⟩);case measure=>simp[intOf];omega
  have KO:k=s.size:=aAM;subst KO;have uF:s.data.toList.take s.size=s.data.toList:=List.take_of_length_le aAQ;rw[uF];clear HD uF;generalize kL s.data.toList=n at HB zL ⊢;have hn:=HB.out;by_cases hm:(1099511627776:Int)<(n:Int)
  ·go_wp2_with fail;go_ret2;exact⟨by rw[zL.out,if_neg aAM];rfl,rfl⟩
  go_wp2_with fail;go_ret2
  exact⟨by rw[zL.out,if_pos aAM];rfl,rfl⟩):p:=h
theorem ZN{p:Prop}(h:p:=by
 go_enter Tryz.func183,Tryz.ntmps183;go_wp2_with(go_at_call 127;refine DV.out.mono ?_;rintro e w' ⟨rfl,rfl⟩);go_ret2
 exact⟨by rw[HW.out,H1.out,H2.out,decide_eq_false (show ¬s.size<=13 by omega)];rfl,rfl⟩):p:=h
theorem toList_nil{s:bA}(h:s.size=0):s.toList=[]:=by rw[Lib.toList_data];exact List.eq_nil_of_length_eq_zero aBn
theorem iS(s:bA):s.size=s.data.toList.length:=aAQ
theorem toList_ne{s:bA}(h:0<s.size):¬s.toList=[]:=fun e=>by rw[Lib.toList_data] at e;rw[iS,e] at h;exact absurd h aAQ
theorem oX{s:bA}(h:0<s.size):∃r,s.data.toList=s[0]::r:=by
 cases hh:s.data.toList with
 |nil=>rw[iS,hh] at h;exact absurd h aAQ
 |cons c r=>
  refine⟨r,?_⟩;have:s[0]=s.data.toList[0]'(by rw[hh];simp):=rfl;rw[this];simp[hh]
theorem spanN_all{p:UInt8->Bool}:∀(l:List UInt8),decide (dX p l=l.length)=l.all p
 |[]=>rfl
 |x::l=>by
  have:=spanN_all (p:=p) l;unfold dX at this ⊢
  cases hx:p x with
  |false=>simp[hx]
  |true=>simp[hx];simpa using this
theorem nat_beq(a b:Nat):((a:Int)==(b:Int))=decide (a=b):=aBh
theorem word_any(s:bA)(w:World)(hs:s.size<=140737488355328):Calls Tryz.prog 182 #[.string s] w fun e w'=>e=.returned (.bool (lO s))/\w=w':=by
 have DV:=zh (span_any 216 lV s w hs enters_word1 word1_any);by_cases h0:s.size=0
 ·have h1:=toList_nil h0;have HW:Hid (lO s=false):=zh (by unfold lO;rw[<-Lib.toList_data,h1]);go_enter Tryz.func182,Tryz.ntmps182;go_wp2_with fail;go_ret;exact⟨aF HW.out.symm,rfl⟩
 have uD:0<s.size:=aAM;have h1:=toList_ne uD;have hE:s.toList.isEmpty=false:=by cases hh:s.toList with|nil=>exact absurd hh h1|cons=>rfl
 obtain⟨r,hr⟩:=oX uD
 have HW:Hid (lO s=(kB s[0]&&decide (s.size<=20)&&decide (dX lV s.data.toList=s.size))):=zh (by
  rw[show decide (dX lV s.data.toList=s.size)=s.data.toList.all lV by rw[iS s,spanN_all]];unfold lO;rw[hr])
 have HL:=zh (letter_any s[0] w);clear hr;generalize kB s[0]=a at HW HL
 cases a with
 |false=>
  go_enter Tryz.func182,Tryz.ntmps182;go_wp2_with(go_at_call 179;refine HL.out.mono ?_;rintro e w' ⟨rfl,rfl⟩);go_ret;exact⟨aF (by rw[HW.out];rfl),rfl⟩
 |true=>
  by_cases h20:(20:Int)<(s.size:Int)
  ·go_enter Tryz.func182,Tryz.ntmps182;go_wp2_with(go_at_call 179;refine HL.out.mono ?_;rintro e w' ⟨rfl,rfl⟩);go_ret;exact⟨aF (by rw[HW.out,decide_eq_false aAM];rfl),rfl⟩
  go_enter Tryz.func182,Tryz.ntmps182;go_wp2_with(first|(go_at_call 179;refine HL.out.mono ?_;rintro e w' ⟨rfl,rfl⟩)|(go_at_call 127;refine DV.out.mono ?_;rintro e w' ⟨rfl,rfl⟩));go_ret;exact⟨aF (by rw[HW.out,decide_eq_true (show s.size<=20 by omega),nat_beq];rfl),rfl⟩
theorem beq_zero(s:bA):(s.toList==[48])=decide (s=⟨#[48]⟩):=by
 have h:(⟨#[48]⟩:bA).toList=[48]:=by rw[Lib.toList_data]
 rw[Bool.eq_iff_iff];simp only[beq_iff_eq,decide_eq_true_eq];constructor
 ·intro e;rw[Lib.toList_data] at e;cases s with|mk d=>cases d;simp at e;subst e;rfl
 intro e;rw[e,h]
theorem decOf_snoc(l:List UInt8)(c:UInt8):kL (l++[c])=10*kL l+(c.toNat-48):=by unfold kL;rw[List.foldl_append];rfl
theorem decOf_go:∀(l:List UInt8)(n k:Nat),l.all dO=true->n<10 ^ k->l.foldl (fun n c=>10*n+(c.toNat-48)) n<10 ^ (k+l.length)
 |[],n,k,_,h=>aBn
 |c::l,n,k,ha,h=>by
  simp only[List.all_cons,Bool.and_eq_true] at ha;have hc:c.toNat<=57:=by have:=ha.1;unfold dO at this;simp at this;omega
  have:=decOf_go l (10*n+(c.toNat-48)) (k+1) ha.2 (by rw[Nat.pow_succ];omega);simp only[List.foldl_cons,List.length_cons];rw[show k+(l.length+1)=k+1+l.length by omega];exact this
theorem decOf_lt(l:List UInt8)(h:l.all dO=true):kL l<10 ^ l.length:=by
 have:=decOf_go l 0 0 h aAO;simpa[kL] using this
theorem all_take{p:UInt8->Bool}{l:List UInt8}(h:l.all p=true)(k:Nat):(l.take k).all p=true:=by
 rw[List.all_eq_true] at h ⊢;exact fun x hx=>h x (List.mem_of_mem_take hx)
abbrev tokV(k:Int)(t:bA)(n pos:Int):Value:=oBx30 k t n pos
def numV(r:Option Nat):Value:=match r with|some n=>.tuple #[.int .i64 n,.bool true]|none=>.tuple #[.int .i64 0,.bool false]
theorem number_any(s:bA)(w:World)(hs:s.size<=140737488355328):Calls Tryz.prog 183 #[.string s] w fun e w'=>e=.returned (numV (kJ s))/\w=w':=by
 have DV:=zh (span_any 181 dO s w hs enters_digit rT);by_cases h0:s.size=0
 ·have h1:=toList_nil h0;have HW:Hid (kJ s=none):=zh (by unfold kJ;rw[<-Lib.toList_data,h1]);go_enter Tryz.func183,Tryz.ntmps183;go_wp2_with fail;go_ret2;exact⟨by rw[HW.out];rfl,rfl⟩
 have uD:0<s.size:=aAM;have h1:=toList_ne uD;obtain⟨r,hr⟩:=oX uD;have hz:=beq_zero s
 have HA:Hid (decide (dX dO s.data.toList=s.size)=s.data.toList.all dO):=zh (by
  rw[iS s,spanN_all])
 have HW:Hid (kJ s=if s.data.toList.all dO&& !(decide (s[0].toNat=48)&&decide (s.size≠1))&&decide (s.size<=13)&&decide (kL s.data.toList<=1099511627776) then some (kL s.data.toList) else none):=zh (by
  unfold kJ;rw[hr])
 clear hr;have hE:s.toList.isEmpty=false:=by cases hh:s.toList with|nil=>exact absurd hh h1|cons=>rfl
 have tL:∀v,(s.data.toList.all dO&& !(decide (s[0].toNat=48)&&decide (s.size≠1))&&decide (s.size<=13))=false->v=numV none->v=numV (kJ s):=by
  intro v h e;rw[HW.out,h,e];rfl
 by_cases g1:dX dO s.data.toList=s.size
 ·have H1:Hid (s.data.toList.all dO=true):=zh (by rw[<-HA.out,decide_eq_true g1]);rw[g1] at DV;by_cases g2:s[0].toNat=48/\s.size≠1
  ·have hc:(s[0].toNat:Int)=48:=aAM;(have sX:¬s.toList=[48]:=fun e=>by rw[Lib.toList_data] at e;have:=iS s;rw[e] at this;exact g2.2 aBY);have g:=zh g2;clear g2 hz;go_enter Tryz.func183,Tryz.ntmps183;go_wp2_with(go_at_call 127;refine DV.out.mono ?_;rintro e w' ⟨rfl,rfl⟩);go_ret2;exact⟨by rw[HW.out,H1.out,decide_eq_true g.out.1,decide_eq_true g.out.2];rfl,rfl⟩
  have sX:(s[0].toNat:Int)=48->s.toList=[48]:=by
   intro e;have e1:s.size=1:=aAM;obtain⟨r,hr⟩:=oX uD;(have e2:r=[]:=by have:=iS s;rw[hr] at this;simp at this;exact List.eq_nil_of_length_eq_zero aAM);rw[Lib.toList_data,hr,e2];congr 1;exact UInt8.toNat_inj.1 (by rw[show(48:UInt8).toNat=48 from rfl];omega)
  have H2:Hid ((!(decide (s[0].toNat=48)&&decide (s.size≠1)))=true):=zh (by
   rw[Bool.not_eq_true',Bool.and_eq_false_iff,decide_eq_false_iff_not,decide_eq_false_iff_not];omega)
  clear hz g2;by_cases g3:(13:Int)<(s.size:Int)
  ·by_cases hc:(s[0].toNat:Int)=48
   ·have:=sX hc;exact ZN
   clear sX;exact ZN
  have tI:(s.size:Int)<=13:=aAM;have HB:Hid (kL s.data.toList<10 ^ 13):=zh (Nat.lt_of_lt_of_le (decOf_lt _ H1.out) (Nat.pow_le_pow_right aAO (by rw[<-iS];omega)))
  have HD:∀k,k<=s.size->kL (s.data.toList.take k)<10 ^ 13:=fun k hk=>
   Nat.lt_of_lt_of_le (decOf_lt _ (all_take H1.out k)) (Nat.pow_le_pow_right aAO aCm)
  have HD:=zh HD
  have zL:Hid (kJ s=if kL s.data.toList<=1099511627776 then some (kL s.data.toList) else none):=zh (by
   rw[HW.out,H1.out,H2.out,decide_eq_true (show s.size<=13 by omega)];simp)
  clear HW tL;by_cases hc:(s[0].toNat:Int)=48
  ·have CD:=sX hc;(have GO:(s.toList==[48])=true:=by rw[CD];rfl);exact X8
  have tU:((s[0].toNat:Int)==48)=false:=by rw[beq_eq_false_iff_ne];exact hc
  exact X8
 have H1:Hid (s.data.toList.all dO=false):=zh (by rw[<-HA.out,decide_eq_false g1]);have g1':((dX dO s.data.toList:Int)==(s.size:Int))=false:=aAW;go_enter Tryz.func183,Tryz.ntmps183;go_wp2_with(go_at_call 127;refine DV.out.mono ?_;rintro e w' ⟨rfl,rfl⟩);go_ret2;exact⟨by rw[HW.out,H1.out];rfl,rfl⟩
theorem lQ(s:bA)(i:Nat):(iU s i).size=s.size-i:=by unfold iU;rw[ByteArray.size_extract];omega
theorem headB_size'(s:bA)(n:Nat)(h:n<=s.size):(lA s n).size=n:=by unfold lA;rw[ByteArray.size_extract];omega
theorem spanN_pos{p:UInt8->Bool}{s:bA}(uD:0<s.size)(hp:p s[0]=true):1<=dX p s.data.toList:=by
 obtain⟨r,hr⟩:=oX uD;rw[hr];unfold dX;simp[hp]
theorem signs_size:∀x,x∈gL->1<=x.size/\x.size<=2:=by
 intro x hx;simp only[gL,List.mem_cons,List.not_mem_nil,or_false] at hx;rcases hx with h|h|h|h|h|h|h|h|h|h|h|h|h|h<;>subst h<;>decide
theorem nextTok_ok{s:bA}(uD:0<s.size){k:Int}{t:bA}{n:Int}(h:gV s=.ok (k,t,n)):k≠3/\1<=t.size/\t.size<=s.size:=by
 obtain⟨r,hr⟩:=oX uD
 have hN:gV s=if kB s[0] then(if lO (lA s (dX lV s.data.toList)) then .ok (0,lA s (dX lV s.data.toList),0) else .error 12)
  else if dO s[0] then(match kJ (lA s (dX dO s.data.toList)) with
   |some n=>.ok (1,lA s (dX dO s.data.toList),n)
   |none=>.error 3)
  else match gL.find? (oP s) with
   |some x=>.ok (2,x,0)
   |none=>.error 10:=by unfold gV;rw[hr];rfl
 rw[hN] at h;clear hN hr;have zI:∀p,dX p s.data.toList<=s.size:=fun p=>by rw[iS];exact spanN_le _ _
 split at h
 ·rename_i hl;split at h
  ·(injection h with h;injection h with h1 h2;injection h2 with h2 h3);subst h1 h2;rw[headB_size' _ _ (zI _)];exact⟨aAO,spanN_pos uD (by unfold lV;rw[hl];rfl),zI _⟩
  cases h
 split at h
 ·rename_i hd;split at h
  ·(injection h with h;injection h with h1 h2;injection h2 with h2 h3);subst h1 h2;rw[headB_size' _ _ (zI _)];exact⟨aAO,spanN_pos uD hd,zI _⟩
  cases h
 split at h
 ·rename_i x hx;injection h with h;injection h with h1 h2;injection h2 with h2 h3
  subst h1 h2;have h1:=signs_size _ (List.mem_of_find?_eq_some hx);have h2:=List.find?_some hx;refine⟨aAO,h1.1,?_⟩;have:=(List.isPrefixOf_iff_prefix.1 h2).length_le;rw[iS,iS s];exact this
 cases h
theorem nextTok_err{s:bA}{e:Int}(h:gV s=.error e):e≠0:=by
 unfold gV at h;split at h
 ·cases h;decide
 split at h
 ·split at h
  ·cases h
  cases h;decide
 split at h
 ·split at h
  ·cases h
  cases h;decide
 split at h
 ·cases h
 cases h;decide
structure TokOk (s:bA) (l:List Tok):Prop where
 pos:0<l.length
 len:l.length<=s.size+1
 last:∀(k:Nat)(t:Tok),l[k]? =some t->t.kind≠3->k+1<l.length
 size:∀(t:Tok),t∈l->t.text.size<=s.size
theorem TokOk.of{s:bA}{out:List Tok}{p:Int}(h1:out.length<=s.size)(h2:∀t,t∈out->t.kind≠3/\t.text.size<=s.size):TokOk s (out++[⟨3,⟨#[]⟩,0,p⟩]):=by
 refine⟨aAQ,aA0,fun k t hk sC=>?_,fun t ht=>?_⟩
 ·have sE:=(Yb.1 hk).1;rw[List.length_append,List.length_singleton] at sE ⊢;by_cases CG:k<out.length
  ·omega
  rw[List.getElem?_append_right aAM,show k-out.length=0 by omega] at hk;cases hk;exact absurd rfl sC
 rcases List.mem_append.1 ht with h|h
 ·exact(h2 t h).2
 rw[List.mem_singleton.1 h];exact Nat.zero_le _
section
variable {s:bA} {f i:Nat} {out:List Tok}
theorem lexFrom_end(h:i+dX jY (iU s i).data.toList=s.size):jI s (f+1) i out=.ok (out++[⟨3,⟨#[]⟩,0,s.size⟩]):=by rw[jI,if_pos h]
theorem lexFrom_bad{e:Int}(h:¬i+dX jY (iU s i).data.toList=s.size)(hn:gV (iU s (i+dX jY (iU s i).data.toList))=.error e):
  jI s (f+1) i out=.error ((i+dX jY (iU s i).data.toList:Nat),e):=by rw[jI,if_neg h,hn]
theorem lexFrom_on{k n:Int}{t:bA}(h:¬i+dX jY (iU s i).data.toList=s.size)(hn:gV (iU s (i+dX jY (iU s i).data.toList))=.ok (k,t,n)):
  jI s (f+1) i out=jI s f (i+dX jY (iU s i).data.toList+t.size) (out++[⟨k,t,n,(i+dX jY (iU s i).data.toList:Nat)⟩]):=by rw[jI,if_neg h,hn]
end
end Go.Proofs.YtacgopankhpnbaaGreatDoor
