/- Texts of this seat, joined. -/
import Derived.Test.YtmpopphjaggeoaaGreatDoorKZ
import Derived.Shelf.Strings.SlTrimAscii
set_option maxHeartbeats 16000000
set_option maxRecDepth 1000000
set_option linter.unusedVariables false
set_option linter.unusedSimpArgs false
set_option linter.constructorNameAsVariable false
namespace Go.Proofs.YtmpopphjaggeoaaGreatDoor
open Go.RowKit Go.Shelf
def hM:bA:=⟨#[97,98,99,100,101,102,103,104,105,106,107,108,109,110,111,112,113,114,115,116,117,118,119,120,121,122,48,49,50,51,52,53,54,55,56,57,45,46]⟩
theorem licB_cut:∀i:Fin 256,licB (UInt8.ofNat i.val)=hM.data.toList.contains (UInt8.ofNat i.val):=CV
theorem licB_iff(x:UInt8):licB x=hM.data.toList.contains x:=by
 have h:=licB_cut ⟨x.toNat,x.toNat_lt⟩;simpa using h
theorem licB_ascii:∀i:Fin 256,licB (UInt8.ofNat i.val)=true->i.val<128/\0<=Lib.indexByte hM.data.toList (UInt8.ofNat i.val):=CV
theorem licB_lt{x:UInt8}(h:licB x=true):x.toNat<128:=(licB_ascii ⟨x.toNat,x.toNat_lt⟩ D5).1
theorem licB_idx{x:UInt8}(h:licB x=true):0<=Lib.indexByte hM.data.toList x:=by
 have:=(licB_ascii ⟨x.toNat,x.toNat_lt⟩ D5).2;simpa using this
theorem lic_pred{x:UInt8}(hx:licB x=true)(w:World):Calls Tryz.prog 252 #[.int .i32 (x.toNat:Int)] w fun e w'=>e=.returned (.bool false)/\w'=w:=by
 have HC:=zh (Tryz.strings_ContainsRune_ascii hM (x.toNat:Int) w CR (by have:=licB_lt hx;omega))
 have hi:Hid (decide (0<=Lib.indexByte hM.data.toList ((x.toNat:Int).toNat.toUInt8))=true):=zh (by
  rw[Int.toNat_natCast];have e:x.toNat.toUInt8=x:=C0;rw[e]
  exact decide_eq_true (licB_idx hx))
 have sA:∀(x:Bool)(w:World),(Op.unary .not (.bool x)).run Tryz.prog w=.ok (.bool (!x)) w:=fun _ _=>rfl;go_enter Tryz.func252,Tryz.ntmps252;go_wp2_with fail;refine HC.out.mono ?_;rintro e w1 ⟨rfl,rfl⟩;rw[hi.out];go_wp2_with fail;go_ret;exact⟨rfl,rfl⟩
theorem lic_idxf(s:bA)(hs:s.data.toList.all licB=true)(w:World):
  Calls Tryz.prog 313 #[.string s,.func (.func 252) #[] #[],.bool true] w fun e w'=>e=.returned (.int .i64 (-1))/\Below w.heap.size w w':=by
 go_enter Tryz.func313,Tryz.ntmps313;go_wp2_with fail
 go_loopg [] s.size (fun gf wx=>∃pos:Nat,Hid (wx.heap[w.heap.size]? =some (.stringIter s pos))/\Hid (Below w.heap.size w wx)/\s.size<=pos+gf)
 case atStart=>exact⟨0,zh (World.iter_heap w s 0),zh ((Below.refl _ w).alloc (Nat.le_refl _) _),CR⟩
 case round=>
  obtain⟨pos,hit,tA,hfu⟩:=hrel;by_cases hps:pos<s.size
  ·obtain⟨g',rfl⟩:∃g',gk=g'+1:=⟨gk-1,CR⟩;have hc:licB (s[pos]'hps)=true:=List.all_eq_true.1 hs _ (Array.mem_toList_iff.2 (show s.data[pos]'hps∈s.data from Array.getElem_mem _));have hd:=decode_ascii s pos hps (licB_lt hc);have tZ:∀ty,(Instr.next (.pointer (some ⟨w.heap.size,0,none⟩)) true ty).run Tryz.prog wr=_:=fun ty=>Lib.run_next_any_at wr w.heap.size s pos ty hit.out hps;rw[hd] at tZ;have hit2:=zh (Lib.iterAt_heap wr w.heap.size s pos (pos+1) hit.out);have hbw2:=zh (Lib.below_iterAt tA.out (k:=w.heap.size) (Nat.le_refl _) s (pos+1));have HP:=zh (fun W=>lic_pred hc W);clear hd hc;generalize s[pos].toNat=R at *;generalize wr.iterAt w.heap.size s (pos+1)=W at *;go_wp2_with fail;refine(HP.out _).mono ?_;rintro e W' ⟨rfl,rfl⟩;go_wp2_with fail
   go_roundg g'
   (case measure=>omega);case rel=>exact⟨pos+1,hit2,hbw2,CR⟩
  have tZ:∀ty,(Instr.next (.pointer (some ⟨w.heap.size,0,none⟩)) true ty).run Tryz.prog wr=_:=fun ty=>Lib.run_next_end_at wr w.heap.size s pos ty hit.out hps;go_wp2_with fail;go_ret;exact⟨rfl,tA.out⟩
theorem lic_contF(s:bA)(hs:s.data.toList.all licB=true)(w:World):
  Calls Tryz.prog 251 #[.string s,.func (.func 252) #[] #[]] w fun e w'=>e=.returned (.bool false)/\Below w.heap.size w w':=by
 have HI:=zh (fun W=>lic_idxf s hs W);go_enter Tryz.func251,Tryz.ntmps251;go_wp2_with(first|(go_at_call 291;go_in));refine(HI.out _).mono ?_;rintro e w1 ⟨rfl,hb⟩;have HB:=zh hb;clear hb;go_wp2_with fail;go_ret;exact⟨rfl,HB.out⟩
theorem dropW_keeps{p:UInt8->Bool}{x:UInt8}(hp:p x=false):∀{l:List UInt8},x∈l->x∈l.dropWhile p
 |[],h=>D3
 |c::l,h=>by
  rw[List.dropWhile_cons];split
  ·rename_i hc;rcases List.mem_cons.1 h with rfl|h
   ·rw[hp] at hc;cases hc
   exact dropW_keeps hp h
  exact h
theorem trimS_keeps{l cs:List UInt8}{x:UInt8}(hx:x∈l)(hn:cs.contains x=false):¬Lib.trimS l cs=[]:=by
 intro e
 have h1:x∈Lib.trimRightS l cs:=by
  unfold Lib.trimRightS;rw[List.mem_reverse];exact dropW_keeps hn (List.mem_reverse.2 hx)
 have h2:x∈Lib.trimS l cs:=dropW_keeps hn h1;rw[e] at h2;cases h2
theorem dropW_all{p:UInt8->Bool}:∀{l:List UInt8},(∀x∈l,p x=true)->l.dropWhile p=[]
 |[],_=>rfl
 |c::l,h=>by
  rw[List.dropWhile_cons,if_pos (h c C0)];exact dropW_all fun x hx=>h x (by simp[hx])
theorem trimS_all{l cs:List UInt8}(h:∀x∈l,cs.contains x=true):Lib.trimS l cs=[]:=by
 unfold Lib.trimS Lib.trimLeftS Lib.trimRightS;rw[dropW_all (l:=l.reverse) (fun x hx=>h x (List.mem_reverse.1 hx))];rfl
theorem asciiInfo:(Tryz.prog.info? 346).map (fun i=>(i.zero,i.size))=some (some (.agg (Array.replicate 256 (.bool false))),256):=CQ
theorem lic_trim(s:bA)(hs:s.size<=1000)(w:World):
  Calls Tryz.prog 250 #[.string s,.string hM] w fun e w'=>∃r,e=.returned (.string r)/\(r=noB↔s.data.toList.all licB=true)/\Below w.heap.size w w':=by
 refine(Any.strings_Trim_laid Tryz.lays160 asciiInfo s hM w CR CX (ascii_of_all CX)).mono ?_;rintro e w' ⟨rfl,hb⟩;refine⟨_,rfl,?_,hb⟩
 have oC:s.data.toList.all licB=s.data.toList.all (hM.data.toList.contains ·):=by
  congr 1;funext x;exact licB_iff x
 rw[oC];constructor
 ·intro e
  have e2:Lib.trimS s.data.toList hM.data.toList=[]:=by
   have:=congrArg (fun b:bA=>b.data.toList) e;simpa[noB] using this
  rw[List.all_eq_true];intro x hx;refine Classical.byContradiction fun hn=>?_;exact trimS_keeps hx (by simpa using hn) e2
 intro e;rw[trimS_all (List.all_eq_true.1 e)]
theorem iD{s:bA}{x:bA}{l:List UInt8}(hx:x.data.toList=l):s=x↔s.toList=l:=by
 rw[Lib.toList_data,<-hx];constructor
 ·rintro rfl;rfl
 intro h;exact ByteArray.ext (Array.toList_inj.1 h)
theorem licName_eq(s:bA)(h:0<s.size):eA s=(decide (s.size<=20)&& !decide (s=iH)&& !decide (s=kOrL)&&dX (s[0]'h)&&s.data.toList.all licB):=by
 obtain⟨c,l,hl⟩:∃c l,s.data.toList=c::l:=by
  cases hq:s.data.toList with
  |nil=>
   have e:s.data.toList.length=s.size:=C0;rw[hq] at e;simp at e;omega
  |cons c l=>exact⟨c,l,rfl⟩
 have hc:s[0]'h=c:=by
  have e:s.data.toList[0]? =some (s[0]'h):=by
   rw[Array.getElem?_toList];exact Array.getElem?_eq_getElem h
  rw[hl] at e;simpa using e.symm
 unfold eA;rw[hc];split
 ·rename_i e;rw[hl] at e;cases e
 rename_i c' l' e;rw[hl] at e;cases e;rfl
theorem fK(s:bA)(h:s.toList=[]\/(20:Int)<(s.size:Int)\/s.toList=[97,110,100]\/s.toList=[111,114]\/(∃h:0<s.size,((s[0]'h).toNat:Int)<97\/122<((s[0]'h).toNat:Int))\/s.data.toList.all licB=false):eA s=false:=by
 by_cases h0:0<s.size
 ·rw[licName_eq s h0];rcases h with h|h|h|h|⟨_,h⟩|h
  ·rw[Lib.toList_data] at h;have e:s.data.toList.length=s.size:=C0;rw[h] at e;simp at e;omega
  ·rw[decide_eq_false (by omega:¬s.size<=20)];rfl
  ·rw[decide_eq_true ((iD (x:=iH) rfl).2 h)];simp
  ·rw[decide_eq_true ((iD (x:=kOrL) rfl).2 h)];simp
  ·have:dX (s[0]'h0)=false:=by
    unfold dX;rw[Bool.and_eq_false_iff,decide_eq_false_iff_not,decide_eq_false_iff_not];rcases h with h|h
    ·left;intro e;have:(97:UInt8).toNat<=(s[0]'h0).toNat:=e;have e2:(97:UInt8).toNat=97:=rfl;omega
    right;intro e;have:(s[0]'h0).toNat<=(122:UInt8).toNat:=e;have e2:(122:UInt8).toNat=122:=rfl;omega
   rw[this];simp
  rw[h];simp
 have e:s.data.toList=[]:=List.eq_nil_of_length_eq_zero (by rw[Array.length_toList];have:s.data.size=s.size:=rfl;omega);unfold eA;rw[e]
theorem licName_yes(s:bA)(h5:¬s.toList=[])(h4:(s.size:Int)<=20)(h3:¬s.toList=[97,110,100])(h2:¬s.toList=[111,114])(h1:0<s.size)(h0:97<=((s[0]'h1).toNat:Int))(hc:((s[0]'h1).toNat:Int)<=122):eA s=s.data.toList.all licB:=by
 rw[licName_eq s h1,decide_eq_true (by omega:s.size<=20),decide_eq_false (fun e=>h3 ((iD (x:=iH) rfl).1 e)),decide_eq_false (fun e=>h2 ((iD (x:=kOrL) rfl).1 e))]
 have:dX (s[0]'h1)=true:=by
  unfold dX;rw[Bool.and_eq_true,decide_eq_true_eq,decide_eq_true_eq];constructor
  ·show(97:UInt8).toNat<=(s[0]'h1).toNat;have e2:(97:UInt8).toNat=97:=rfl;omega
  show(s[0]'h1).toNat<=(122:UInt8).toNat;have e2:(122:UInt8).toNat=122:=rfl;omega
 rw[this];simp
theorem named_any(s:bA)(w:World):
  Calls Tryz.prog 218 #[.string s] w fun e w'=>e=.returned (.bool (eA s))/\Below w.heap.size w w':=by
 go_enter Tryz.func218,Tryz.ntmps218;go_wp2_with fail;all_goals rename_i h
 all_goals first
  |(have h1:=fK s (.inl h);go_ret;exact⟨aF h1.symm,Below.refl _ _⟩)
  |(have h1:=fK s (.inr (.inl h));go_ret;exact⟨aF h1.symm,Below.refl _ _⟩)
  |(have h1:=fK s (.inr (.inr (.inl h)));go_ret;exact⟨aF h1.symm,Below.refl _ _⟩)
  |(have h1:=fK s (.inr (.inr (.inr (.inl h))));go_ret;exact⟨aF h1.symm,Below.refl _ _⟩)
  |skip
 ·have hh:s.toList=[]\/(20:Int)<(s.size:Int)\/s.toList=[97,110,100]\/s.toList=[111,114]\/(∃h:0<s.size,((s[0]'h).toNat:Int)<97\/122<((s[0]'h).toNat:Int))\/s.data.toList.all licB=false:=by
   rcases h with((((h|h)|h)|h)|h)|h
   ·exact .inl (List.isEmpty_iff.1 h)
   ·exact .inr (.inl h)
   ·exact .inr (.inr (.inl D5))
   ·exact .inr (.inr (.inr (.inl D5)))
   ·exact .inr (.inr (.inr (.inr (.inl ⟨by assumption,.inl h⟩))))
   exact .inr (.inr (.inr (.inr (.inl ⟨by assumption,.inr h⟩))))
  have h1:=fK s hh;go_ret;exact⟨aF h1.symm,Below.refl _ _⟩
 ·rename_i h5 h4 h3 h2 h1 h0 hc k1 k2 k3;have HY:=zh (licName_yes s h5 h4 h3 h2 h1 h0 hc.2);have mO:s.size<=1000:=CR;refine(lic_trim s mO w).mono ?_;rintro e w1 ⟨r,rfl,hr,kK⟩;have jL:=zh kK;clear kK;have sA:∀(x:Bool)(w:World),(Op.unary .not (.bool x)).run Tryz.prog w=.ok (.bool (!x)) w:=fun _ _=>rfl;by_cases oC:s.data.toList.all licB=true
  ·(have rT:r.toList=[]:=by rw[hr.2 oC,Lib.toList_data]);have HC:=zh (fun W=>lic_contF s oC W);have HA:=zh oC;clear hr oC;go_wp2_with fail;refine(HC.out _).mono ?_;rintro e w2 ⟨rfl,jP⟩;have jF:=zh (aA jL.out jP);clear jP;go_wp2_with fail;go_ret;exact⟨aF (by rw[HY.out,HA.out]),jF.out⟩
  have rT:¬r.toList=[]:=fun e=>oC (hr.1 (by
   (have e2:r.data.toList=[]:=by rw[<-Lib.toList_data];exact e);(have e3:r.data=#[]:=by apply Array.toList_inj.1;exact e2);cases r;simp at e3;subst e3
   rfl))
  have HA:Hid (s.data.toList.all licB=false):=zh (by simpa using oC);clear hr oC;go_wp2_with fail;go_ret;exact⟨aF (by rw[HY.out,HA.out]),jL.out⟩
 ·have h1:=fK s (.inr (.inr (.inr (.inr (.inl ⟨by assumption,.inl h⟩)))));go_ret;exact⟨aF h1.symm,Below.refl _ _⟩
 exfalso;have e:s.data.toList.length=s.size:=C0;have e2:s.data.toList=[]:=List.eq_nil_of_length_eq_zero CR;rw[<-Lib.toList_data] at e2;exact absurd e2 (by assumption)
mutual
def fF(N:Nat->Prop)(w:World):Lic->List Value->Prop
 | .mk op name args,cs=>∃va,cs=[.int .i64 op,.string name,va]/\
   ∃a c,va=.slice a args.length c/\args.length<=c/\c<=9223372036854775807/\(args≠[]->∃b o,a=some ⟨b,o,none⟩/\N b/\encLs N w b o args)
def encLs(N:Nat->Prop)(w:World)(b:Nat):Nat->List Lic->Prop
 |_,[]=>True
 |o,x::r=>(∃cs,fF N w x cs/\cs.length=3/\∀j u,cs[j]? =some u->w.cell? ⟨b,o+j,none⟩=some u)/\encLs N w b (o+3) r
end
section
variable {N N':Nat->Prop} {w w':World}
theorem encLs_iff(b:Nat):∀(l:List Lic)(o:Nat),encLs N w b o l↔∀i x,l[i]? =some x->∃cs,fF N w x cs/\cs.length=3/\∀j u,cs[j]? =some u->w.cell? ⟨b,o+i*3+j,none⟩=some u
 |[],o=>by simp[encLs]
 |x::r,o=>by
  unfold encLs;rw[encLs_iff b r (o+3)];constructor
  ·rintro⟨h1,h2⟩ i y hy
   cases i with
   |zero=>simp at hy;subst hy;simpa using h1
   |succ i=>
    exact BV
  intro h;refine⟨by simpa using h 0 x rfl,fun i y hy=>?_⟩;exact BU
theorem encL_iff(op:Int)(name:bA)(args:List Lic)(cs:List Value):fF N w (.mk op name args) cs↔∃va,cs=[.int .i64 op,.string name,va]/\aK 3 fF N w va args:=by
 unfold fF aK;simp only[encLs_iff]
mutual
theorem encL_moves(hm:aM N w N' w'):∀(x:Lic)(cs:List Value),fF N w x cs->fF N' w' x cs
 | .mk op name args,cs,h=>by
  unfold fF at h ⊢;obtain⟨va,hc,a,c,h4,h5,h6,h7⟩:=h;refine⟨va,hc,a,c,h4,h5,h6,fun kQ=>?_⟩;obtain⟨b,o,ha,hb,hx⟩:=h7 kQ
  have jM:b<w.heap.size:=by
   cases args with
   |nil=>exact absurd rfl kQ
   |cons x r=>
    unfold encLs at hx;obtain⟨⟨cs,-,hl,hj⟩,-⟩:=hx;exact BH
  exact⟨b,o,ha,(hm b hb jM).1,encLs_moves hm b hb jM args o hx⟩
theorem encLs_moves(hm:aM N w N' w')(b:Nat)(hb:N b)(jM:b<w.heap.size):∀(l:List Lic)(o:Nat),encLs N w b o l->encLs N' w' b o l
 |[],_,_=>by unfold encLs;trivial
 |x::r,o,h=>by
  unfold encLs at h ⊢;obtain⟨⟨cs,h1,h2,h3⟩,h4⟩:=h;exact⟨⟨cs,encL_moves hm x cs h1,h2,fun j u hu=>(hm b hb jM).2 _ _ (h3 j u hu)⟩,encLs_moves hm b hb jM r (o+3) h4⟩
end
end
theorem aY:cF fF:=fun _ _ _ _ x cs hm h=>encL_moves hm x cs h
theorem dK{N:Nat->Prop}{w:World}{x:Lic}{cs:List Value}(h:fF N w x cs):∃nm a c,cs=[.int .i64 x.op,.string nm,.slice a x.args.length c]/\aK 3 fF N w (.slice a x.args.length c) x.args/\x=.mk x.op nm x.args:=by
 obtain⟨op,nm,args⟩:=x;obtain⟨va,rfl,hr⟩:=(encL_iff op nm args cs).1 h;obtain⟨a,c,rfl,-⟩:=id hr;exact⟨nm,a,c,rfl,hr,rfl⟩
theorem encL_leaf{N:Nat->Prop}{w:World}(op:Int)(nm:bA):fF N w (.mk op nm []) [.int .i64 op,.string nm,.slice none 0 0]:=
 (encL_iff op nm [] _).2 ⟨_,rfl,aK.nil _ _ _ _⟩
def eF(pb:Nat)(l:List bA)(w:World):Prop:=∃v,w.heap[pb]? =some (.cells #[v] 184)/\Strs w v l/\∀b o n c,v=.slice (some ⟨b,o,none⟩) n c->b<pb
def dY(pb:Nat)(k:Nat):Prop:=k=pb
theorem strs_off{w w':World}{v:Value}{l:List bA}{pb:Nat}(h:Strs w v l)(hb:∀b o n c,v=.slice (some ⟨b,o,none⟩) n c->b<pb)(hw:∀k,k<pb->k<w.heap.size->w'.heap[k]? =w.heap[k]?):Strs w' v l:=by
 obtain⟨a,c,hv,h1,h2,h3⟩:=h;refine⟨a,c,hv,h1,h2,fun kQ=>?_⟩;obtain⟨b,o,ha,hx⟩:=h3 kQ;subst ha;refine⟨b,o,rfl,fun i x hi=>?_⟩;obtain⟨cs,e,hl,hj⟩:=hx i x hi;exact⟨cs,e,hl,fun j u hu=>(World.cell?_of_block (hw b (hb _ _ _ _ hv) (cV (hj j u hu)))).trans (hj j u hu)⟩
theorem eF.off{S:Nat->Prop}{pb:Nat}{l:List bA}{w w':World}(h:eF pb l w)(ho:Off S w w')(hS:∀k,S k->pb<k):eF pb l w':=by
 obtain⟨v,h1,h2,h3⟩:=h;exact⟨v,ho.heap (fun hs=>by have:=hS pb hs;omega) h1,strs_off h2 h3 (fun k hk hl=>ho.block k hl (fun hs=>by have:=hS k hs;omega)),h3⟩
theorem eF.later{pb:Nat}{l:List bA}{w w':World}(h:eF pb l w)(hb:Below w.heap.size w w'):eF pb l w':=by
 obtain⟨v,h1,h2,h3⟩:=h;exact⟨v,(hb.block pb (Array.getElem?_eq_some_iff.1 h1).1).trans h1,h2.later hb,h3⟩
theorem one_cell{v z:Value}{k:Nat}(h:(#[v]:Array Value)[k]? =some z):z=v:=by
 cases k with
 |zero=>simpa using h.symm
 |succ k=>simp at h
theorem eF.next{pb b o n c:Nat}{x:bA}{l:List bA}{w:World}{v:Value}(h1:w.heap[pb]? =some (.cells #[v] 184))(h2:Strs w v (x::l))(hv:v=.slice (some ⟨b,o,none⟩) n c)(h3:∀b o n c,v=.slice (some ⟨b,o,none⟩) n c->b<pb)(u:Value)
  (hu:u=.slice (if c=1 then some ⟨b,o,none⟩ else some ⟨b,o+1,none⟩) (n-1) (c-1)):eF pb l (w.setCell ⟨pb,0,none⟩ u)/\Off (dY pb) w (w.setCell ⟨pb,0,none⟩ u):=by
 refine⟨⟨u,by rw[aG h1];rfl,?_,fun b' o' n' c' e=>?_⟩,Off.setCell (S:=dY pb) w rfl⟩;rotate_left
 ·rw[hu] at e;split at e
  ·cases e;exact h3 _ _ _ _ hv
  cases e;exact h3 _ _ _ _ hv
 obtain⟨a,c',hv',hl,hc,hx⟩:=h2;rw[hv] at hv';cases hv';obtain⟨b',o',e,hx⟩:=hx C0;cases e
 have hbp:b≠pb:=by
  rintro rfl;obtain⟨cs,⟨e,-⟩,-,hj⟩:=hx 0 x rfl;subst e;have q:=hj 0 _ rfl;rw[cell_of_row w b _ #[v] 184 (0,0) h1] at q;have:=one_cell q;rw[hv] at this;cases this
 subst hu;simp only[List.length_cons] at hl ⊢;refine⟨if c=1 then some ⟨b,o,none⟩ else some ⟨b,o+1,none⟩,c-1,C0,CR,CR,fun kQ=>?_⟩;have hlp:0<l.length:=List.length_pos_iff.2 kQ;rw[if_neg CR];refine⟨b,o+1,rfl,fun i y hy=>?_⟩;obtain⟨cs,h3,h4,h5⟩:=hx (i+1) y ED;refine⟨cs,h3,h4,fun j z hz=>?_⟩;have:=h5 j z hz;rw[show o+1+i*1+j=o+(i+1)*1+j by omega];exact(Off.setCell (S:=dY pb) w rfl).cell hbp this
def SkipQ(pb:Nat)(t:bA)(l:List bA)(w:World)(e:Ending)(w':World):Prop:=∃b l',e=.returned (.bool b)/\eF pb l' w'/\Off (dY pb) w w'/\
   ((b=true/\l=t::l')\/(b=false/\l'=l/\w'=w/\∀r,l≠t::r))
theorem lskip_any(pb:Nat)(t:bA)(l:List bA)(w:World)(h:eF pb l w):
  Calls Tryz.prog 216 #[.pointer (some ⟨pb,0,none⟩),.string t] w fun e w'=>SkipQ pb t l w e w':=by
 obtain⟨v,h1,h2,h3⟩:=id h;have c0:w.cell? ⟨pb,0,none⟩=some v:=(aH h1 0 rfl).1;have f0:=(aH h1 0 rfl).2;rcases h2.cases with⟨rfl,a,c,rfl⟩|⟨b,o,c,rfl,hp,hl,hc,hb,hx⟩
 ·go_enter Tryz.func216,Tryz.ntmps216;go_wp2_with fail;go_ret;exact⟨_,_,rfl,h,Off.refl _ _,.inr ⟨rfl,rfl,rfl,fun r e=>by cases e⟩⟩
 obtain⟨x,r,rfl⟩:∃x r,l=x::r:=by
  cases l with
  |nil=>simp at hp
  |cons x r=>exact⟨x,r,rfl⟩
 have x0:=(hx 0 x rfl).1;simp only[List.length_cons,Nat.add_zero] at x0 hl hp;have hn:(0:Int)<((r.length+1:Nat):Int):=CR;have HH:=zh h;have H1:=zh h1;have H2:=zh h2;have H3:=zh h3;clear hx h h1 h2 h3;simp only[List.length_cons] at c0;generalize hq:r.length+1=n at *;have HQ:=zh hq;clear hq;by_cases hxt:x=t
 ·have hxt2:(x.toList==t.toList)=true:=by rw[hxt];simp
  have HX:=zh hxt;have hlow:(1:Int)<=(n:Int):=CR;have hlow2:1<=n:=CR;have hcap:1<=c:=CR;clear hxt;by_cases jH:c=1
  ·have HN:=zh (eF.next H1.out H2.out rfl H3.out (.slice (some ⟨b,o,none⟩) (n-1) (c-1)) (by rw[if_pos jH,List.length_cons,HQ.out]));go_enter Tryz.func216,Tryz.ntmps216;go_wp2_with fail;go_ret;exact⟨_,_,rfl,by simpa[jH] using HN.out.1,by simpa[jH] using HN.out.2,.inl ⟨rfl,by rw[HX.out]⟩⟩
  have HN:=zh (eF.next H1.out H2.out rfl H3.out (.slice (some ⟨b,o+1,none⟩) (n-1) (c-1)) (by rw[if_neg jH,List.length_cons,HQ.out]));go_enter Tryz.func216,Tryz.ntmps216;go_wp2_with fail;go_ret;exact⟨_,_,rfl,HN.out.1,HN.out.2,.inl ⟨rfl,by rw[HX.out]⟩⟩
 have hxt2:(x.toList==t.toList)=false:=by rw[dR];exact decide_eq_false hxt
 have HX:=zh hxt;clear hxt;go_enter Tryz.func216,Tryz.ntmps216;go_wp2_with fail;go_ret;exact⟨_,_,rfl,HH.out,Off.refl _ _,.inr ⟨rfl,rfl,rfl,fun r e=>HX.out (by cases e;rfl)⟩⟩
def WordQ(pb:Nat)(l:List bA)(w:World)(e:Ending)(w':World):Prop:=∃nm b l',e=.returned (.tuple #[.string nm,.bool b])/\eF pb l' w'/\Off (dY pb) w w'/\
   ((b=true/\l=nm::l'/\eA nm=true)\/(b=false/\l'=l/\nm=noB/\∀x r,l=x::r->eA x=false))
theorem lword_any(pb:Nat)(l:List bA)(w:World)(h:eF pb l w):
  Calls Tryz.prog 249 #[.pointer (some ⟨pb,0,none⟩)] w fun e w'=>WordQ pb l w e w':=by
 obtain⟨v,h1,h2,h3⟩:=id h;have c0:w.cell? ⟨pb,0,none⟩=some v:=(aH h1 0 rfl).1;have f0:=(aH h1 0 rfl).2;have sA:∀(x:Bool)(w:World),(Op.unary .not (.bool x)).run Tryz.prog w=.ok (.bool (!x)) w:=fun _ _=>rfl;rcases h2.cases with⟨rfl,a,c,rfl⟩|⟨b,o,c,rfl,hp,hl,hc,hb,hx⟩
 ·go_enter Tryz.func249,Tryz.ntmps249;go_wp2_with fail;go_ret2;exact⟨_,_,_,rfl,h,Off.refl _ _,.inr ⟨rfl,rfl,rfl,fun x r e=>by cases e⟩⟩
 obtain⟨x,r,rfl⟩:∃x r,l=x::r:=by
  cases l with
  |nil=>simp at hp
  |cons x r=>exact⟨x,r,rfl⟩
 have x0:=(hx 0 x rfl).1;simp only[List.length_cons,Nat.add_zero] at x0 hl hp;have hn:(0:Int)<((r.length+1:Nat):Int):=CR;have hn0:(((r.length+1:Nat):Int)==0)=false:=DN;have HH:=zh h;have H1:=zh h1;have H2:=zh h2;have H3:=zh h3;have vU:=zh (named_any x w);have jM:pb<w.heap.size:=(Array.getElem?_eq_some_iff.1 h1).1;clear hx h h1 h2 h3;simp only[List.length_cons] at c0;generalize hq:r.length+1=n at *;have HQ:=zh hq;clear hq;have hlow:(1:Int)<=(n:Int):=CR;have hlow2:1<=n:=CR;have hcap:1<=c:=CR;go_enter Tryz.func249,Tryz.ntmps249;go_wp2_with fail;refine vU.out.mono ?_;rintro e w1 ⟨rfl,kK⟩;have H11:=zh ((kK.block pb jM).trans H1.out);have H21:=zh (H2.out.later kK);have HH1:=zh (HH.out.later kK);have c1:=aD kK c0;have y0:=aD kK x0;have f1:=(aH H11.out 0 rfl).2;have HO:=zh (Ba (S:=dY pb) kK);clear kK vU H1 H2 HH c0 f0 x0
 cases mS:eA x with
 |false=>
  have HX:=zh mS;clear mS;go_wp2_with fail;go_ret2;exact⟨_,_,_,rfl,HH1.out,HO.out,.inr ⟨rfl,rfl,rfl,fun y q e=>by cases e;exact HX.out⟩⟩
 |true=>
  have HX:=zh mS;clear mS;by_cases jH:c=1
  ·have HN:=zh (eF.next H11.out H21.out rfl H3.out (.slice (some ⟨b,o,none⟩) (n-1) (c-1)) (by rw[if_pos jH,List.length_cons,HQ.out]));go_wp2_with fail;go_ret2;exact⟨_,_,_,rfl,by simpa[jH] using HN.out.1,HO.out.trans (by simpa[jH] using HN.out.2),.inl ⟨rfl,rfl,HX.out⟩⟩
  have HN:=zh (eF.next H11.out H21.out rfl H3.out (.slice (some ⟨b,o+1,none⟩) (n-1) (c-1)) (by rw[if_neg jH,List.length_cons,HQ.out]));go_wp2_with fail;go_ret2;exact⟨_,_,_,rfl,HN.out.1,HO.out.trans HN.out.2,.inl ⟨rfl,rfl,HX.out⟩⟩
end Go.Proofs.YtmpopphjaggeoaaGreatDoor
namespace Go.Proofs.YtmpopphjaggeoaaGreatDoor
open Go.RowKit Go.Shelf
theorem AP{p:Prop}(h:p:=by
 have xU:w.heap.size+2<=w2.heap.size:=Nat.le_trans hHq ho.size;have RESw:=zh (ho.heap (show ¬dY pb _ from fun e=>DT) RESq.out);have BOXw:=zh (ho.heap (show ¬dY pb _ from fun e=>DT) BOXq.out);have R2:=aC (aB w2 (.cells #[.int .i64 xo,.string nm,.slice a x.args.length c] 123)) (ho.heap (show ¬dY pb _ from fun e=>DT) RESq.out);have E2:=aC (aB w2 (.cells #[.int .i64 xo,.string nm,.slice a x.args.length c] 123)) (ho.heap (show ¬dY pb _ from fun e=>DT) BOXq.out);have qO:=zh (GROq.out.stays aY (cJ.of_off ho (fun b hb=>.inl (by cases hb;omega))));have lP:=zh oI;have tJ:=zh nE;obtain⟨⟨p0,p1,p2⟩,r0,r1,r2⟩:=bx3 R2;obtain⟨⟨e0,e1,e2⟩,s0,s1,s2⟩:=bx3 E2;clear hx ht oI nE R2 E2
 cases ok with
 |false=>
  have HN:Hid (RR=none):=zh (NONEq.out (tJ.out rfl));have HZ:=zh (sev_zero pW.out oT.out pO xU (x:=(.cells #[.int .i64 xo,.string nm,.slice a x.args.length c] 123)));clear e0 e1 e2 s0 s1 s2;have wQ:=aC (aB w2 (.cells #[.int .i64 xo,.string nm,.slice a x.args.length c] 123)) RESw.out;have hO4:=HZ.out (((((w2.alloc (.cells #[.int .i64 xo,.string nm,.slice a x.args.length c] 123)).setCell ⟨w.heap.size,0,none⟩ (.int .i64 0)).setCell ⟨w.heap.size,1,none⟩ (.string ⟨#[]⟩)).setCell ⟨w.heap.size,2,none⟩ (.slice none 0 0))) (((Off.setCell (S:=fun k=>w.heap.size<=k) _ (Nat.le_refl _)).trans (Off.setCell (S:=fun k=>w.heap.size<=k) _ (Nat.le_refl _))).trans (Off.setCell (S:=fun k=>w.heap.size<=k) _ (Nat.le_refl _)));have HO4:=zh hO4;have HH4:Hid (((((w2.alloc (.cells #[.int .i64 xo,.string nm,.slice a x.args.length c] 123)).setCell ⟨w.heap.size,0,none⟩ (.int .i64 0)).setCell ⟨w.heap.size,1,none⟩ (.string ⟨#[]⟩)).setCell ⟨w.heap.size,2,none⟩ (.slice none 0 0)).heap[w.heap.size]? =some (.cells #[.int .i64 0,.string ⟨#[]⟩,.slice none 0 0] 123)):=zh (by rw[aG (aG (aG wQ _ _) _ _) _ _];rfl);clear wQ hO4;go_wp2_with fail;generalize ((((w2.alloc (.cells #[.int .i64 xo,.string nm,.slice a x.args.length c] 123)).setCell ⟨w.heap.size,0,none⟩ (.int .i64 0)).setCell ⟨w.heap.size,1,none⟩ (.string ⟨#[]⟩)).setCell ⟨w.heap.size,2,none⟩ (.slice none 0 0))=w4 at *;obtain⟨⟨c0,c1,c2⟩,-⟩:=bx3 HH4.out;refine bodyPost_ret (v:=.tuple #[.agg #[.int .i64 0,.string ⟨#[]⟩,.slice none 0 0],.bool false]) EN rfl ?_;exact⟨_,.mk 0 noB [],false,l2,rfl,encL_leaf 0 noB,HO4.out.1,HO4.out.2,(fun h=>D3),fun _=>by show eR op btw part (l.length+1) [] l=none;rw[<-HRR.out];exact HN.out⟩
 |true=>
  have HPt:=zh (lP.out rfl);obtain⟨rJ,hw2,tL⟩:=wI _ _ _ (lP.out rfl);by_cases nR:xo=op
  ·subst nR;have oD:Hid (added xo acc x=acc++x.args):=zh (by unfold added;rw[if_pos kR.out])
   have h2l:2<=x.args.length:=by
    rcases rJ with⟨h0,-⟩|⟨-,h0⟩
    ·rw[kR.out] at h0;omega
    exact h0
   obtain⟨b',o',css2,rfl,hN,k1,k2,k3,k4,k5⟩:=args_css HX.out CR;have rK:=fun j u hu=>aD (aB w2 (.cells #[.int .i64 xo,.string nm,.slice (some ⟨b',o',none⟩) x.args.length c] 123)) (by rw[<-add_at];exact k3 j u hu);go_wp2_with(at_builtin;refine wpList_append_lies _ rfl _ _ 121 rfl (w.heap.size+2) 123 i0 (.agg #[.int .i64 0,.string ByteArray.empty,.slice none 0 0]) 3 48 Tryz.underlying121 oN pY lF nO rfl CR va acc.length css.flatten D4 (qO.out.own.alloc _) ⟨b',o',none⟩ x.args.length c css2.flatten D4 k4 (fun j u hu=>by rw[add_at];exact rK j u hu) k5 CR DO CR DC (w2.heap.size+1) C0 ?_);intro gg cap w9 jY iP mM _;have rP:=Gro.many aY (Gro.later aY qO.out (aB w2 (.cells #[.int .i64 xo,.string nm,.slice (some ⟨b',o',none⟩) x.args.length c] 123))) k1 (fun i y d hy hd=>⟨aY _ _ _ _ _ _ (part_moves GROq.out (aB w2 _)) (k2 i y d hy hd).1,(k2 i y d hy hd).2⟩) jY iP EE;have rC:=zh (sev_next pO oT.out xU pW.out RESw.out BOXw.out qO.out (aB w2 (.cells #[.int .i64 xo,.string nm,.slice (some ⟨b',o',none⟩) x.args.length c] 123)) rP iP);obtain⟨v2,z2⟩:=rC.out.2;clear jY iP mM e0 e1 e2 s0 s1 s2 p0 p1 p2 r0 r1 r2 rP rK k1 k2 k3 k4 k5;go_wp2_with fail
   go_roundg g'
   (case measure=>omega);case rel=>exact⟨added xo acc x,_,l2,false,rfl,zh (by rw[oD.out];exact rC.out.1.1),zh rC.out.1.2,CR,CR,by rw[oD.out,List.length_append];omega,zh (by rw[NEXTq.out l2 x HPt.out];rfl),zh (fun h=>D3),zh (fun _=>by rw[oD.out,List.length_append];omega)⟩
  have hxo2:(xo==op)=false:=by simpa using nR
  have oD:Hid (added op acc x=acc++[x]):=zh (by unfold added;rw[if_neg (by rw[kR.out];exact nR)]);clear nR;have zP:=zh (aA (aB w2 (.cells #[.int .i64 xo,.string nm,.slice a x.args.length c] 123)) (aB (w2.alloc (.cells #[.int .i64 xo,.string nm,.slice a x.args.length c] 123)) (.cells #[.int .i64 xo,.string nm,.slice a x.args.length c] 123)));have kX:=bY (w2.alloc (.cells #[.int .i64 xo,.string nm,.slice a x.args.length c] 123)) (.cells #[.int .i64 xo,.string nm,.slice a x.args.length c] 123);rw[show(w2.alloc (.cells #[.int .i64 xo,.string nm,.slice a x.args.length c] 123)).heap.size=w2.heap.size+1 by simp] at kX;have kH:=zh kX;clear kX;go_wp2_with(at_builtin;refine wpList_append_lies _ rfl _ _ 121 rfl (w.heap.size+2) 123 i0 (.agg #[.int .i64 0,.string ByteArray.empty,.slice none 0 0]) 3 48 Tryz.underlying121 oN pY lF nO rfl CR va acc.length css.flatten D4 ((qO.out.own.alloc _).alloc _) ⟨w2.heap.size+1,0,none⟩ 1 1 [.int .i64 xo,.string nm,.slice a x.args.length c] D4 rfl (World.news_of_block kH.out) DR CR DO CR DC (w2.heap.size+2) C0 ?_);intro gg cap w9 jY iP mM _;have rP:=Gro.added aY (Gro.later aY qO.out zP.out) (aY _ _ _ _ _ _ (part_moves GROq.out zP.out) HX.out) rfl jY iP EE;have rC:=zh (sev_next pO oT.out xU pW.out RESw.out BOXw.out qO.out zP.out rP iP);obtain⟨v2,z2⟩:=rC.out.2;clear jY iP mM e0 e1 e2 s0 s1 s2 p0 p1 p2 r0 r1 r2 rP;go_wp2_with fail
  go_roundg g'
  case measure=>omega
  case rel=>exact⟨added op acc x,_,l2,false,rfl,zh (by rw[oD.out];exact rC.out.1.1),zh rC.out.1.2,CR,CR,by rw[oD.out,List.length_append,List.length_singleton];omega,zh (by rw[NEXTq.out l2 x HPt.out];rfl),zh (fun h=>D3),zh (fun _=>by rw[oD.out,List.length_append,List.length_singleton];omega)⟩):p:=h
theorem Gro.many{α:Type}{k:Nat}{T:TypeId}{enc:(Nat->Prop)->World->α->List Value->Prop}{B:Nat}{l:List α}{css:List (List Value)}{v:Value}{w w':World}(he:cF enc)(h:Gro k T enc B l css v w){g cap:Nat}{xs:List α}{zW:List (List Value)}(kU:zW.length=xs.length)
  (hx:∀(i:Nat)(x:α)(c:List Value),xs[i]? =some x->zW[i]? =some c->enc (offN B v) w x c/\c.length=k)
  (jY:w'.ownsRow B T k (.slice (some ⟨g,0,none⟩) (l.length+xs.length) cap) (l.length+xs.length) (css.flatten++zW.flatten)) (iP:w.grownBy w' v.ownBlock) (mM:v.ownBlock=some g\/g=w.heap.size):
  Gro k T enc B (l++xs) (css++zW) (.slice (some ⟨g,0,none⟩) (l.length+xs.length) cap) w':=by
 have hm:aM (offN B v) w (offN B (.slice (some ⟨g,0,none⟩) (l.length+xs.length) cap)) w':=fun b hb jM=>by
  exact BQ
 refine⟨by rw[List.length_append,List.flatten_append];exact jY,by simp[h.len,kU],fun c hc=>?_,fun i y c hy hc=>?_,Nat.le_trans h.big iP.size⟩
 ·rcases List.mem_append.1 hc with h1|h1
  ·exact h.ks c h1
  obtain⟨i,hi,rfl⟩:=List.mem_iff_getElem.1 h1;exact(hx i (xs[i]' CR) _ (List.getElem?_eq_getElem _) (List.getElem?_eq_getElem hi)).2
 by_cases hi:i<l.length
 ·exact B0
 rw[List.getElem?_append_right CR] at hy;rw[List.getElem?_append_right (by rw[h.len];omega),h.len] at hc;exact he _ _ _ _ _ _ hm (hx _ _ _ hy hc).1
theorem encLs_css{N:Nat->Prop}{w:World}(b:Nat):∀(l:List Lic)(o:Nat),encLs N w b o l->∃css:List (List Value),css.length=l.length/\(∀(i:Nat)(x:Lic)(c:List Value),l[i]? =some x->css[i]? =some c->fF N w x c/\c.length=3)/\
  (∀j u,css.flatten[j]? =some u->w.cell? ⟨b,o+j,none⟩=some u)/\css.flatten.length=l.length*3/\∀u∈css.flatten,u.oneCell'=true
 |[],_,_=>⟨[],rfl,fun i x c h=>EY,fun j u h=>EY,rfl,fun u h=>EY⟩
 |x::r,o,h=>by
  unfold encLs at h;obtain⟨⟨cs,h1,h2,h3⟩,h4⟩:=h;obtain⟨css,k1,k2,k3,k4,k5⟩:=encLs_css b r (o+3) h4;refine⟨cs::css,by simp[k1],fun i y c hy hc=>?_,fun j u hu=>?_,by rw[List.flatten_cons,List.length_append,k4,h2,List.length_cons];omega,fun u hu=>?_⟩
  ·cases i with
   |zero=>simp at hy hc;subst hy hc;exact⟨h1,h2⟩
   |succ i=>exact k2 i y c ED (by simpa using hc)
  ·rw[List.flatten_cons] at hu;by_cases hj:j<3
   ·rw[List.getElem?_append_left CR] at hu;exact h3 j u hu
   rw[List.getElem?_append_right CR,h2] at hu;have:=k3 (j-3) u hu;rw[show o+3+(j-3)=o+j by omega] at this;exact this
  rw[List.flatten_cons,List.mem_append] at hu;rcases hu with hu|hu
  ·obtain⟨nm,a,c,rfl,-,-⟩:=dK h1;simp at hu;rcases hu with rfl|rfl|rfl<;>rfl
  exact k5 u hu
theorem add_at(b o j:Nat):(⟨b,o,none⟩:Addr).add j=⟨b,o+j,none⟩:=FG
theorem args_css{N:Nat->Prop}{w:World}{x:Lic}{nm:bA}{op:Int}{a:Option Addr}{n c:Nat}(h:fF N w x [.int .i64 op,.string nm,.slice a n c])(h2:0<x.args.length):∃(b o:Nat)(css:List (List Value)),a=some ⟨b,o,none⟩/\N b/\css.length=x.args.length/\(∀(i:Nat)(y:Lic)(d:List Value),x.args[i]? =some y->css[i]? =some d->fF N w y d/\d.length=3)/\
  (∀j u,css.flatten[j]? =some u->w.cell? ((⟨b,o,none⟩:Addr).add j)=some u)/\css.flatten.length=x.args.length*3/\∀u∈css.flatten,u.oneCell'=true:=by
 obtain⟨op',nm',args⟩:=x;unfold fF at h;obtain⟨va,hc,a',c',h4,h5,h6,h7⟩:=h;simp only[Lic.args] at h2 ⊢;obtain⟨b,o,ha,hb,hx⟩:=h7 (List.length_pos_iff.1 h2);simp at hc;obtain⟨-,-,e⟩:=hc;rw[h4] at e;cases e;obtain⟨css,k1,k2,k3,k4,k5⟩:=encLs_css b args o hx;exact⟨b,o,css,ha,hb,k1,k2,fun j u hu=>by rw[add_at];exact k3 j u hu,k4,k5⟩
theorem licInfo:(Tryz.prog.info? 123).map (fun i=>(i.zero,i.size,i.bytes))=some (some (.agg #[.int .i64 0,.string ByteArray.empty,.slice none 0 0]),3,48):=CQ
def PartQ(part:List bA->Option (Lic×List bA))(pb:Nat)(l:List bA)(w:World)(e:Ending)(w':World):Prop:=
 ∃cs x ok l',e=.returned (.tuple #[.agg (List.toArray cs),.bool ok])/\fF (cP w.heap.size) w' x cs/\eF pb l' w'/\Off (dY pb) w w'/\(ok=true->part l=some (x,l'))/\(ok=false->part l=none)
def wfL(x:Lic):Prop:=(x.op=0/\x.args=[])\/(x.op≠0/\2<=x.args.length)
def PartWf(part:List bA->Option (Lic×List bA)):Prop:=∀l x r,part l=some (x,r)->wfL x/\r.length<l.length/\x.args.length+r.length<=l.length
def added(op:Int)(acc:List Lic)(x:Lic):List Lic:=acc++if x.op=op then x.args else[x]
def aftP(op:Int)(btw:bA)(part:List bA->Option (Lic×List bA))(k:Nat)(acc:List Lic):List bA->Option (Lic×List bA)
 |[]=>some (gL op acc,[])
 |t::r'=>if t=btw then eR op btw part k acc r' else some (gL op acc,t::r')
theorem sevP_some{op:Int}{btw:bA}{part:List bA->Option (Lic×List bA)}{k:Nat}{acc:List Lic}{l r:List bA}{x:Lic}(h:part l=some (x,r)):eR op btw part (k+1) acc l=aftP op btw part k (added op acc x) r:=by
 unfold eR;rw[h];cases r<;>rfl
theorem sevP_none{op:Int}{btw:bA}{part:List bA->Option (Lic×List bA)}{k:Nat}{acc:List Lic}{l:List bA}(h:part l=none):eR op btw part (k+1) acc l=none:=by
 unfold eR;rw[h]
structure SevS (pb:Nat) (op:Int) (w:World) (acc:List Lic) (va:Value) (wr:World):Prop where
 off:Off (dY pb) w wr
 res:wr.heap[w.heap.size]? =some (.cells #[.int .i64 0,.string ⟨#[]⟩,.slice none 0 0] 123)
 box:wr.heap[w.heap.size+1]? =some (.cells #[.int .i64 op,.string ⟨#[]⟩,va] 123)
 gro:∃css,Gro 3 123 fF (w.heap.size+2) acc css va wr
theorem off_grown{v:Value}{w w':World}(h:w.grownBy w' v.ownBlock):Off (fun b=>v.ownBlock=some b) w w':=⟨h.os,h.tape,h.output,h.size,fun k hk hn=>h.block k hk (fun e=>hn e.symm)⟩
theorem part_moves{B:Nat}{acc:List Lic}{css:List (List Value)}{va:Value}{wq w2 W3:World}(h:Gro 3 123 fF B acc css va wq)(hb:Below w2.heap.size w2 W3):aM (cP wq.heap.size) w2 (offN B va) W3:=fun b kK jM=>
 ⟨⟨Nat.le_trans h.big kK,fun e=>by have:=(h.lt b e).2;have:wq.heap.size<=b:=kK;omega⟩,fun o v hv=>aD hb hv⟩
theorem sev_next{pb:Nat}{op:Int}{l:List bA}{w w2 W3 w9:World}{acc acc2:List Lic}{css css3:List (List Value)}{va:Value}{gg n' cap:Nat}(pO:pb<w.heap.size)(ho:Off (dY pb) w w2)(xU:w.heap.size+2<=w2.heap.size)(ht:eF pb l w2)
  (yY:w2.heap[w.heap.size]? =some (.cells #[.int .i64 0,.string ⟨#[]⟩,.slice none 0 0] 123)) (uD:w2.heap[w.heap.size+1]? =some (.cells #[.int .i64 op,.string ⟨#[]⟩,va] 123))
  (hg:Gro 3 123 fF (w.heap.size+2) acc css va w2) (hW:Below w2.heap.size w2 W3) (hnew:Gro 3 123 fF (w.heap.size+2) acc2 css3 (.slice (some ⟨gg,0,none⟩) n' cap) w9) (iP:W3.grownBy w9 va.ownBlock):
  (SevS pb op w acc2 (.slice (some ⟨gg,0,none⟩) n' cap) (w9.setCell ⟨w.heap.size+1,2,none⟩ (.slice (some ⟨gg,0,none⟩) n' cap))/\eF pb l (w9.setCell ⟨w.heap.size+1,2,none⟩ (.slice (some ⟨gg,0,none⟩) n' cap)))/\
   w9.cell? ⟨w.heap.size+1,2,none⟩=some va/\w9.frozen? ⟨w.heap.size+1,2,none⟩=false:=by
 have jM:=hg.lt;have e9:∀k,k<w.heap.size+2->w9.heap[k]? =w2.heap[k]? :=fun k hk=>(iP.block k (by have:=hW.size;omega) (fun e=>by have:=(jM k e.symm).1;omega)).trans (hW.block k CR);have r9:=(e9 _ CR).trans yY;have b9:=(e9 _ CR).trans uD;have o9:Off (fun k=>w.heap.size<=k) W3 w9:=(off_grown iP).mono fun k hk=>by have:=(jM k hk).1;omega
 have oA:Off (fun k=>w.heap.size<=k) w2 (w9.setCell ⟨w.heap.size+1,2,none⟩ (.slice (some ⟨gg,0,none⟩) n' cap)):=
  ((Ba hW).trans o9).trans (Off.setCell (S:=fun k=>w.heap.size<=k) _ CR)
 refine⟨⟨⟨((ho.or w.heap.size).trans (oA.mono fun k hk=>.inr hk)).fresh (Nat.le_refl _),?_,?_,css3,hnew.stays aY (cJ.of_off (Off.setCell (S:=fun k=>k=w.heap.size+1) _ rfl) (fun b hb=>.inl CR))⟩,ht.off oA (fun k hk=>CR)⟩,(aH b9 2 rfl).1,(aH b9 2 rfl).2⟩
 ·exact(Below.heap_setCell _ _ _ _ C0).trans r9
 rw[aG b9];rfl
theorem Gro.cellAt0{α:Type}{k:Nat}{T:TypeId}{enc:(Nat->Prop)->World->α->List Value->Prop}{B n cap g:Nat}{l:List α}{css:List (List Value)}{w:World}(h:Gro k T enc B l css (.slice (some ⟨g,0,none⟩) n cap) w){c:List Value}(hc:css[0]? =some c){j:Nat}{u:Value}(hu:c[j]? =some u):w.cell? ⟨g,j,none⟩=some u:=by
 have:=h.own.cells (g:=g) rfl j u (by
  cases css with
  |nil=>cases hc
  |cons d r=>
   simp at hc;subst hc;rw[List.flatten_cons,List.getElem?_append_left (Yb.1 hu).1]
   exact hu)
 rw[add_at,Nat.zero_add] at this;exact this
theorem sevEnd_many{op:Int}{acc:List Lic}(h:¬acc.length=1):gL op acc=.mk op noB acc:=by
 unfold gL;split
 ·rename_i x;exact absurd rfl h
 rfl
theorem sev_out{pb:Nat}{l:List bA}{w w1:World}{z0 z1 z2:Value}(ht:eF pb l w1)(ho:Off (dY pb) w w1)(pO:pb<w.heap.size)(hr:w1.heap[w.heap.size]? =some (.cells #[z0,z1,z2] 123))(y0 y1 y2:Value):
  (((w1.setCell ⟨w.heap.size,0,none⟩ y0).setCell ⟨w.heap.size,1,none⟩ y1).setCell ⟨w.heap.size,2,none⟩ y2).heap[w.heap.size]? =some (.cells #[y0,y1,y2] 123)/\
  eF pb l (((w1.setCell ⟨w.heap.size,0,none⟩ y0).setCell ⟨w.heap.size,1,none⟩ y1).setCell ⟨w.heap.size,2,none⟩ y2)/\Off (dY pb) w (((w1.setCell ⟨w.heap.size,0,none⟩ y0).setCell ⟨w.heap.size,1,none⟩ y1).setCell ⟨w.heap.size,2,none⟩ y2)/\
  ∀N:Nat->Prop,(∀b,N b->w.heap.size+1<=b)->aM N w1 (cP w.heap.size) (((w1.setCell ⟨w.heap.size,0,none⟩ y0).setCell ⟨w.heap.size,1,none⟩ y1).setCell ⟨w.heap.size,2,none⟩ y2):=by
 have oS:Off (fun k=>k=w.heap.size) w1 (((w1.setCell ⟨w.heap.size,0,none⟩ y0).setCell ⟨w.heap.size,1,none⟩ y1).setCell ⟨w.heap.size,2,none⟩ y2):=
  ((Off.setCell (S:=fun k=>k=w.heap.size) _ rfl).trans (Off.setCell (S:=fun k=>k=w.heap.size) _ rfl)).trans (Off.setCell (S:=fun k=>k=w.heap.size) _ rfl)
 refine⟨by rw[aG (aG (aG hr _ _) _ _) _ _];rfl,ht.off oS (fun k hk=>CR),((ho.or w.heap.size).trans (oS.mono fun k hk=>.inr CR)).fresh (Nat.le_refl _),fun N hN b hb jM=>⟨by have:=hN b hb;show w.heap.size<=b;omega,fun o v hv=>oS.cell (fun e=>by have:=hN b hb;omega) hv⟩⟩
theorem sev_zero{pb:Nat}{l:List bA}{w w2:World}{x:Obj}(ht:eF pb l w2)(ho:Off (dY pb) w w2)(pO:pb<w.heap.size)(hz:w.heap.size+2<=w2.heap.size):
  ∀W,Off (fun k=>w.heap.size<=k) (w2.alloc x) W->eF pb l W/\Off (dY pb) w W:=fun W hW=>by
 have h1:=ht.later (aB w2 x);refine⟨h1.off hW (fun k hk=>CR),?_⟩;have h2:Off (dY pb) w (w2.alloc x):=ho.trans (Ba (aB w2 x));exact((h2.or w.heap.size).trans (hW.mono fun k hk=>.inr hk)).fresh (Nat.le_refl _)
theorem several_any(f:FuncId)(hf:∀args w,(callFunc f args).run Tryz.prog w=.ok (.enter f args) w)(part:List bA->Option (Lic×List bA))(wI:PartWf part)(n:Nat)
  (pb:Nat) (HP:∀l w,eF pb l w->l.length<=n->Calls Tryz.prog f #[.pointer (some ⟨pb,0,none⟩)] w fun e w'=>PartQ part pb l w e w')
  (op:Int) (pS:op=1\/op=2) (btw:bA) (l:List bA) (w:World) (h:eF pb l w) (hn:l.length<=n) (pT:n<=100000):
  Calls Tryz.prog 177 #[.pointer (some ⟨pb,0,none⟩),.int .i64 op,.string btw,.func (.func f) #[.pointer (some ⟨pb,0,none⟩)] #[]] w
   fun e w'=>PartQ (fun l=>eR op btw part (l.length+1) [] l) pb l w e w':=by
 obtain⟨i0,oN,pY,lF,nO⟩:=info_parts licInfo;go_enter Tryz.func177,Tryz.ntmps177;go_wp2_with fail;obtain⟨RR,hRR⟩:∃RR,RR=eR op btw part (l.length+1) [] l:=⟨_,rfl⟩;have HRR:=zh hRR
 go_loopg [11] (l.length+1) (fun gf fv wx=>∃acc va lr first,fv=.bool first/\Hid (SevS pb op w acc va wx)/\Hid (eF pb lr wx)/\lr.length<=n/\lr.length<gf/\acc.length+lr.length<=l.length/\Hid (RR=if first then eR op btw part gf acc lr else aftP op btw part gf acc lr)/\Hid (first=true->acc=[])/\Hid (first=false->0<acc.length))
 case atStart=>
  exact⟨[],.slice none 0 0,l,true,rfl,zh ⟨Ba ((aA (aB _ _) (aB _ _))),aC (aB _ _) (bY w _),by
   have:=bY (w.alloc (.cells #[.int .i64 0,.string ⟨#[]⟩,.slice none 0 0] 123)) (.cells #[.int .i64 op,.string ⟨#[]⟩,.slice none 0 0] 123)
   simpa using this,[],Gro.first_at _ _ _ C0⟩,zh (h.later (aA (aB _ _) (aB _ _))),hn,Nat.lt_succ_self _,C0,HRR,zh (fun _=>rfl),zh (fun h=>D3)⟩
 case round=>
  have pO:pb<w.heap.size:=by obtain⟨v,h1,-⟩:=h;exact(Array.getElem?_eq_some_iff.1 h1).1
  clear hRR h;obtain⟨acc,va,lr,first,rfl,HS,HT,hln,hlg,hac,HR,HF,HF2⟩:=hrel;obtain⟨g',rfl⟩:∃g',gk=g'+1:=⟨gk-1,CR⟩
  cases first with
  |true=>
   have HTq:=HT;have HOq:=zh HS.out.off;have hlq:=hln;have RESq:=zh HS.out.res;have BOXq:=zh HS.out.box;obtain⟨css,pU⟩:=HS.out.gro;have GROq:=zh pU;have zQ:=pU.big;have NEXTq:Hid (∀r x,part lr=some (x,r)->RR=aftP op btw part g' (added op acc x) r):=zh (fun r x h=>by rw[HR.out];exact sevP_some h);have NONEq:Hid (part lr=none->RR=none):=zh (fun h=>by rw[HR.out];exact sevP_none h);clear pU;go_wp2_with fail;refine(HP lr wr HTq.out hlq).mono ?_;rintro e w2 ⟨cs,x,ok,l2,rfl,hx,ht,ho,oI,nE⟩;obtain⟨nm,a,c,rfl,-,oW⟩:=dK hx;clear oW;obtain⟨xo,nI⟩:∃xo,xo=x.op:=⟨_,rfl⟩;rw[<-nI] at hx ⊢;have kR:=zh nI.symm;clear nI;have HX:=zh hx;have pW:=zh ht;have oT:=zh (HOq.out.trans ho);have hHq:w.heap.size+2<=wr.heap.size:=zQ;exact AP
  |false=>
   have hap:=HF2.out rfl;obtain⟨css,pU⟩:=HS.out.gro;go_wp2_with fail;refine(lskip_any pb btw lr wr HT.out).mono ?_;rintro e w1 ⟨b1,l1,rfl,pI,oI,oX⟩;rcases oX with⟨rfl,sC⟩|⟨rfl,rfl,rfl,nB⟩
   ·(have hll:lr.length=l1.length+1:=by rw[sC];rfl);have HTq:=zh pI;have HOq:=zh (HS.out.off.trans oI);have hlq:l1.length<=n:=CR;have hH0:w.heap.size+2<=wr.heap.size:=pU.big;have RESq:=zh (oI.heap (show ¬dY pb _ from fun e=>DT) HS.out.res);have BOXq:=zh (oI.heap (show ¬dY pb _ from fun e=>DT) HS.out.box);have GROq:=zh (pU.stays aY (cJ.of_off oI (fun b hb=>.inl (by cases hb;omega))));have zQ:w.heap.size+2<=w1.heap.size:=Nat.le_trans pU.big oI.size
    have HRa:Hid (RR=eR op btw part (g'+1) acc l1):=zh (by
     rw[HR.out,sC]
     simp only[aftP,if_true,Bool.false_eq_true,if_false])
    have NEXTq:Hid (∀r x,part l1=some (x,r)->RR=aftP op btw part g' (added op acc x) r):=zh (fun r x h=>by rw[HRa.out];exact sevP_some h);have NONEq:Hid (part l1=none->RR=none):=zh (fun h=>by rw[HRa.out];exact sevP_none h);clear pU sC pI oI HS HT;go_wp2_with fail;refine(HP l1 w1 HTq.out hlq).mono ?_;rintro e w2 ⟨cs,x,ok,l2,rfl,hx,ht,ho,oI,nE⟩;obtain⟨nm,a,c,rfl,-,oW⟩:=dK hx;clear oW;obtain⟨xo,nI⟩:∃xo,xo=x.op:=⟨_,rfl⟩;rw[<-nI] at hx ⊢;have kR:=zh nI.symm;clear nI;have HX:=zh hx;have pW:=zh ht;have oT:=zh (HOq.out.trans ho);have hHq:w.heap.size+2<=w1.heap.size:=zQ;exact AP
   have sW:=zh pI;have HOf:=zh HS.out.off;have hH0:w.heap.size+2<=w1.heap.size:=pU.big;have wQ:=HS.out.res;have hE2:=HS.out.box
   have HSe:Hid (RR=some (gL op acc,l1)):=zh (by
    rw[HR.out];simp only[Bool.false_eq_true,if_false]
    cases l1 with
    |nil=>rfl
    |cons t r=>
     have:¬t=btw:=fun e=>nB r (by rw[e])
     simp only[aftP,if_neg this])
   obtain⟨⟨p0,p1,p2⟩,r0,r1,r2⟩:=bx3 wQ;obtain⟨⟨e0,e1,e2⟩,-⟩:=bx3 hE2
   obtain⟨gg,cap,rfl,pJ,oB⟩:∃gg cap,va=.slice (some ⟨gg,0,none⟩) acc.length cap/\w.heap.size+2<=gg/\gg<w1.heap.size:=by
    rcases Gro.val pU with⟨-,e⟩|h
    ·rw[e] at hap;cases hap
    exact h
   have yM:=zh pU;have oL:=zh wQ;clear pI oI nB pU wQ hE2 HS HR;by_cases jO:acc.length=1
   ·obtain⟨x,rfl⟩:∃x,acc=[x]:=by
     match acc,jO with
     |[x],_=>exact⟨x,rfl⟩
    obtain⟨cs,oX⟩:∃cs,css[0]? =some cs:=by
     have:=yM.out.len;exact⟨css[0]'(by rw[this];simp),List.getElem?_eq_getElem _⟩
    have oW:=yM.out.enc 0 x cs rfl oX;have kP:=fun j u(hu:cs[j]? =some u)=>yM.out.cellAt0 oX hu;obtain⟨nm,a,c,rfl,-,-⟩:=dK oW;obtain⟨xo,nI⟩:∃xo,xo=x.op:=⟨_,rfl⟩;rw[<-nI] at oW kP oX;clear nI;have q0:=kP 0 _ rfl;have q1:=kP 1 _ rfl;have q2:=kP 2 _ rfl;have HXe:=zh oW;clear kP oW oX;simp only[List.length_singleton] at e2 ⊢;have kT:=zh (sev_out sW.out HOf.out pO oL.out (.int .i64 xo) (.string nm) (.slice a x.args.length c));go_wp2_with fail;clear q0 q1 q2 p0 p1 p2 r0 r1 r2 e0 e1 e2;generalize ((w1.setCell ⟨w.heap.size,0,none⟩ (.int .i64 xo)).setCell ⟨w.heap.size,1,none⟩ (.string nm)).setCell ⟨w.heap.size,2,none⟩ (.slice a x.args.length c)=w4 at *;obtain⟨⟨c0,c1,c2⟩,-⟩:=bx3 kT.out.1;refine bodyPost_ret (v:=.tuple #[.agg #[.int .i64 xo,.string nm,.slice a x.args.length c],.bool true]) EN rfl ?_;exact⟨_,x,true,l1,rfl,aY _ _ _ _ _ _ (kT.out.2.2.2 _ (fun b hb=>by have:=hb.1;omega)) HXe.out,kT.out.2.1,kT.out.2.2.1,fun _=>by show eR op btw part (l.length+1) [] l=_;rw[<-HRR.out,HSe.out];rfl,(fun h=>D3)⟩
   have qY:((acc.length:Int)==1)=false:=DN;have kT:=zh (sev_out sW.out HOf.out pO oL.out (.int .i64 op) (.string ⟨#[]⟩) (.slice (some ⟨gg,0,none⟩) acc.length cap));go_wp2_with fail;clear p0 p1 p2 r0 r1 r2 e0 e1 e2;generalize ((w1.setCell ⟨w.heap.size,0,none⟩ (.int .i64 op)).setCell ⟨w.heap.size,1,none⟩ (.string ⟨#[]⟩)).setCell ⟨w.heap.size,2,none⟩ (.slice (some ⟨gg,0,none⟩) acc.length cap)=w4 at *;obtain⟨⟨c0,c1,c2⟩,-⟩:=bx3 kT.out.1;refine bodyPost_ret (v:=.tuple #[.agg #[.int .i64 op,.string ⟨#[]⟩,.slice (some ⟨gg,0,none⟩) acc.length cap],.bool true]) EN rfl ?_;exact⟨_,.mk op noB acc,true,l1,rfl,(encL_iff op noB acc _).2 ⟨_,rfl,(Gro.row aY yM.out).moves aY (kT.out.2.2.2 _ (fun b hb=>by have h:w.heap.size+2<=b:=hb;omega)) CX⟩,kT.out.2.1,kT.out.2.2.1,fun _=>by show eR op btw part (l.length+1) [] l=_;rw[<-HRR.out,HSe.out];exact congrArg (fun z=>some (z,l1)) (sevEnd_many jO),(fun h=>D3)⟩
theorem BK{p:Prop}(h:p:=by
 exact⟨_,x,ok,l2,rfl,aY _ _ _ _ _ _ (kT.out.2.2.2 _ (fun b hb=>by have h:(w.alloc (.cells #[.int .i64 0,.string ⟨#[]⟩,.slice none 0 0] 123)).heap.size<=b:=hb;simpa using h)) HX.out,kT.out.2.1,kT.out.2.2.1,lP.out,tJ.out⟩):p:=h
theorem added_len{op:Int}{acc:List Lic}{x:Lic}:(added op acc x).length=acc.length+if x.op=op then x.args.length else 1:=by
 unfold added;split<;>simp
theorem sevEnd_wf{op:Int}(pS:op≠0){acc:List Lic}{x:Lic}{m r:Nat}(hx:wfL x)(hr:r<m)(ha:x.args.length+r<=m):wfL (gL op (added op acc x))/\(gL op (added op acc x)).args.length+r<=acc.length+m:=by
 by_cases h1:(added op acc x).length=1
 ·have hl:=added_len (op:=op) (acc:=acc) (x:=x)
  have hacc:acc=[]/\¬x.op=op:=by
   by_cases nR:x.op=op
   ·rw[if_pos nR] at hl;rcases hx with⟨h0,-⟩|⟨-,h0⟩
    ·exact absurd (nR.symm.trans h0) pS
    omega
   rw[if_neg nR] at hl;exact⟨List.eq_nil_of_length_eq_zero CR,nR⟩
  have e:added op acc x=[x]:=by unfold added;rw[if_neg hacc.2,hacc.1];rfl
  rw[e];exact⟨hx,by show x.args.length+r<=_;omega⟩
 rw[sevEnd_many h1];have hl:=added_len (op:=op) (acc:=acc) (x:=x);refine⟨.inr ⟨pS,?_⟩,?_⟩
 ·show 2<=(added op acc x).length;by_cases nR:x.op=op
  ·rw[if_pos nR] at hl;rcases hx with⟨h0,-⟩|⟨-,h0⟩
   ·exact absurd (nR.symm.trans h0) pS
   omega
  rw[if_neg nR] at hl;omega
 show(added op acc x).length+r<=_;rw[hl];split<;>omega
theorem aftP_nil{op:Int}{btw:bA}{part:List bA->Option (Lic×List bA)}{k:Nat}{acc:List Lic}:aftP op btw part k acc []=some (gL op acc,[]):=rfl
theorem aftP_cons{op:Int}{btw:bA}{part:List bA->Option (Lic×List bA)}{k:Nat}{acc:List Lic}{t:bA}{r:List bA}:aftP op btw part k acc (t::r)=if t=btw then eR op btw part k acc r else some (gL op acc,t::r):=rfl
theorem sev_wf{op:Int}(pS:op≠0){btw:bA}{part:List bA->Option (Lic×List bA)}(wI:PartWf part):∀(k:Nat)(acc:List Lic)(l:List bA)(x:Lic)(r:List bA),eR op btw part k acc l=some (x,r)->wfL x/\r.length<l.length/\x.args.length+r.length<=acc.length+l.length
 |0,_,_,_,_,h=>by unfold eR at h;cases h
 |k+1,acc,l,x,r,h=>by
  cases hp:part l with
  |none=>rw[sevP_none hp] at h;cases h
  |some y=>
   obtain⟨x0,r0⟩:=y;obtain⟨w1,w2,w3⟩:=wI _ _ _ hp;rw[sevP_some hp] at h;have hE:=sevEnd_wf pS (acc:=acc) w1 w2 w3;have hl:=added_len (op:=op) (acc:=acc) (x:=x0)
   cases r0 with
   |nil=>
    rw[aftP_nil] at h;cases h;exact⟨hE.1,w2,hE.2⟩
   |cons t r'=>
    rw[aftP_cons] at h;by_cases ht:t=btw
    ·rw[if_pos ht] at h;obtain⟨v1,v2,v3⟩:=sev_wf pS wI k _ _ _ _ h;simp only[List.length_cons] at w2 w3;refine⟨v1,CR,?_⟩;rw[hl] at v3;by_cases nR:x0.op=op
     ·rw[if_pos nR] at v3;omega
     rw[if_neg nR] at v3;omega
    rw[if_neg ht] at h;cases h;exact⟨hE.1,w2,hE.2⟩
theorem sevp_wf{op:Int}(pS:op≠0){btw:bA}{part:List bA->Option (Lic×List bA)}(wI:PartWf part):PartWf (fun l=>eR op btw part (l.length+1) [] l):=fun l x r h=>by
 have:=sev_wf pS wI _ _ _ _ _ h;simpa using this
theorem licPart_wf:∀d,PartWf (bX d)
 |0,_,_,_,h=>by unfold bX at h;cases h
 |d+1,[],_,_,h=>by unfold bX at h;cases h
 |d+1,t::r,x,r2,h=>by
  have hA:PartWf (fun l=>eR 2 kOrL (fun l=>eR 1 iH (bX d) (l.length+1) [] l) (l.length+1) [] l):=sevp_wf CX (sevp_wf CX (licPart_wf d));unfold bX at h;split at h
  ·split at h
   ·cases h
   ·cases h
   rename_i e u r' he;split at h
   ·cases h;obtain⟨v1,v2,v3⟩:=hA _ _ _ he;simp only[List.length_cons] at v2 v3 ⊢;exact⟨v1,CR,CR⟩
   cases h
  split at h
  ·cases h;exact⟨.inl ⟨rfl,rfl⟩,C0,by simp[Lic.args]⟩
  cases h
theorem lseq_any(pb n d:Nat)(pT:n<=100000)(HP:∀l w,eF pb l w->l.length<=n->Calls Tryz.prog 217 #[.pointer (some ⟨pb,0,none⟩)] w fun e w'=>PartQ (bX d) pb l w e w')
  (l:List bA) (w:World) (h:eF pb l w) (hn:l.length<=n):Calls Tryz.prog 178 #[.pointer (some ⟨pb,0,none⟩)] w fun e w'=>PartQ (fun l=>eR 1 iH (bX d) (l.length+1) [] l) pb l w e w':=by
 have hmf:∀(fn:Fn)(first cap:Array Value)(w:World),(Instr.makeFunc fn first cap).run Tryz.prog w=.ok (.func fn first cap) w:=fun _ _ _ _=>rfl;have pO:pb<w.heap.size:=by obtain⟨v,h1,-⟩:=h;exact(Array.getElem?_eq_some_iff.1 h1).1
 have HA:=zh (bY w (.cells #[.int .i64 0,.string ⟨#[]⟩,.slice none 0 0] 123));have HS:=zh (several_any 217 (enters_of Tryz.func217 CQ rfl) (bX d) (licPart_wf d) n pb HP 1 (.inl rfl) iH l (w.alloc (.cells #[.int .i64 0,.string ⟨#[]⟩,.slice none 0 0] 123)) (h.later (aB _ _)) hn pT);clear h;go_enter Tryz.func178,Tryz.ntmps178;go_wp2_with fail;refine HS.out.mono ?_;rintro e w2 ⟨cs,x,ok,l2,rfl,hx,ht,ho,oI,nE⟩;obtain⟨nm,a,c,rfl,-,oW⟩:=dK hx;clear oW;obtain⟨xo,nI⟩:∃xo,xo=x.op:=⟨_,rfl⟩;rw[<-nI] at hx ⊢;clear nI;have HX:=zh hx;have pW:=zh ht;have R2:=ho.heap (show ¬dY pb _ from fun e=>DT) HA.out;have oT:=zh ((Ba (S:=dY pb) (aB w (.cells #[.int .i64 0,.string ⟨#[]⟩,.slice none 0 0] 123))).trans ho);have lP:=zh oI;have tJ:=zh nE;have kT:=zh (sev_out pW.out oT.out pO R2 (.int .i64 xo) (.string nm) (.slice a x.args.length c));obtain⟨⟨p0,p1,p2⟩,r0,r1,r2⟩:=bx3 R2;clear hx ht ho oI nE R2 HS;go_wp2_with fail;clear p0 p1 p2 r0 r1 r2;generalize ((w2.setCell ⟨w.heap.size,0,none⟩ (.int .i64 xo)).setCell ⟨w.heap.size,1,none⟩ (.string nm)).setCell ⟨w.heap.size,2,none⟩ (.slice a x.args.length c)=w4 at *;obtain⟨⟨c0,c1,c2⟩,-⟩:=bx3 kT.out.1;refine bodyPost_ret (v:=.tuple #[.agg #[.int .i64 xo,.string nm,.slice a x.args.length c],.bool ok]) (by simp[results,Tryz.results178,go_sem,c0,c1,c2]) rfl ?_;exact BK
theorem lalt_any(pb n d:Nat)(pT:n<=100000)(HP:∀l w,eF pb l w->l.length<=n->Calls Tryz.prog 178 #[.pointer (some ⟨pb,0,none⟩)] w fun e w'=>PartQ (fun l=>eR 1 iH (bX d) (l.length+1) [] l) pb l w e w')
  (l:List bA) (w:World) (h:eF pb l w) (hn:l.length<=n):Calls Tryz.prog 135 #[.pointer (some ⟨pb,0,none⟩)] w fun e w'=>PartQ (fun l=>eR 2 kOrL (fun l=>eR 1 iH (bX d) (l.length+1) [] l) (l.length+1) [] l) pb l w e w':=by
 have hmf:∀(fn:Fn)(first cap:Array Value)(w:World),(Instr.makeFunc fn first cap).run Tryz.prog w=.ok (.func fn first cap) w:=fun _ _ _ _=>rfl;have pO:pb<w.heap.size:=by obtain⟨v,h1,-⟩:=h;exact(Array.getElem?_eq_some_iff.1 h1).1
 have HA:=zh (bY w (.cells #[.int .i64 0,.string ⟨#[]⟩,.slice none 0 0] 123));have HS:=zh (several_any 178 (enters_of Tryz.func178 CQ rfl) (fun l=>eR 1 iH (bX d) (l.length+1) [] l) (sevp_wf CX (licPart_wf d)) n pb HP 2 (.inr rfl) kOrL l (w.alloc (.cells #[.int .i64 0,.string ⟨#[]⟩,.slice none 0 0] 123)) (h.later (aB _ _)) hn pT);clear h;go_enter Tryz.func135,Tryz.ntmps135;go_wp2_with fail;refine HS.out.mono ?_;rintro e w2 ⟨cs,x,ok,l2,rfl,hx,ht,ho,oI,nE⟩;obtain⟨nm,a,c,rfl,-,oW⟩:=dK hx;clear oW;obtain⟨xo,nI⟩:∃xo,xo=x.op:=⟨_,rfl⟩;rw[<-nI] at hx ⊢;clear nI;have HX:=zh hx;have pW:=zh ht;have R2:=ho.heap (show ¬dY pb _ from fun e=>DT) HA.out;have oT:=zh ((Ba (S:=dY pb) (aB w (.cells #[.int .i64 0,.string ⟨#[]⟩,.slice none 0 0] 123))).trans ho);have lP:=zh oI;have tJ:=zh nE;have kT:=zh (sev_out pW.out oT.out pO R2 (.int .i64 xo) (.string nm) (.slice a x.args.length c));obtain⟨⟨p0,p1,p2⟩,r0,r1,r2⟩:=bx3 R2;clear hx ht ho oI nE R2 HS;go_wp2_with fail;clear p0 p1 p2 r0 r1 r2;generalize ((w2.setCell ⟨w.heap.size,0,none⟩ (.int .i64 xo)).setCell ⟨w.heap.size,1,none⟩ (.string nm)).setCell ⟨w.heap.size,2,none⟩ (.slice a x.args.length c)=w4 at *;obtain⟨⟨c0,c1,c2⟩,-⟩:=bx3 kT.out.1;refine bodyPost_ret (v:=.tuple #[.agg #[.int .i64 xo,.string nm,.slice a x.args.length c],.bool ok]) (by simp[results,Tryz.results135,go_sem,c0,c1,c2]) rfl ?_;exact BK
end Go.Proofs.YtmpopphjaggeoaaGreatDoor
