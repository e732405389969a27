/- Texts of this seat, joined. -/
import Derived.Test.YtacgopankhpnbaaGreatDoorTQU
import Derived.Test.YtacgopankhpnbaaGreatDoorTQAJ
set_option linter.unusedVariables false
set_option linter.unusedSimpArgs false
namespace Go.Proofs.YtacgopankhpnbaaGreatDoor
theorem firstDiff_none:∀{l m:List bA},l.length=m.length->dF l m=none->l=m
 |[],[],_,_=>rfl
 |[],_::_,h,_=>by simp at h
 |_::_,[],h,_=>by simp at h
 |x::l,y::m,h,hf=>by
  rw[dF] at hf;split at hf
  ·rename_i he;rw[Option.map_eq_none_iff] at hf;rw[he,firstDiff_none (by simpa using h) hf]
  cases hf
section
variable {r:Rcp} {l:List Dn} {st:RSt} {pos:Nat->Nat}
end
section
variable {r:Rcp} {la lb:List Dn} {X Y:RSt} {px py:Nat->Nat}
theorem chainNext_none(hx:mI r la X px)(hy:mI r lb Y py){i:Nat}{s:Stp}(hs:r.steps[i]? =some s)(h:fH r.steps X Y i=none):
  (X.of i).saw=(Y.of i).saw\/∃(k:Nat)(n x y:bA),s.src[k]? =some n/\aK r.steps n=none/\(X.of i).saw[k]? =some x/\(Y.of i).saw[k]? =some y/\x≠y/\X.inp n=some x/\Y.inp n=some y:=by
 obtain⟨l1,l2⟩:=saw_len hx hy hs;unfold fH at h;split at h
 ·rename_i hn;exact .inl (firstDiff_none (by rw[l1,l2]) hn)
 rename_i k hk;obtain⟨x,y,h1,h2,h3⟩:=pP hk;rw[hs] at h;simp only at h
 have hklt:k<s.src.length:=by
  have:=(List.getElem?_eq_some_iff.1 h1).1;have:=sees_le s;omega
 rw[List.getElem?_eq_getElem hklt] at h;simp only at h;have hn:s.src[k]? =some s.src[k]:=List.getElem?_eq_getElem hklt;have hX:=(hx.at_ hs).2.2.1.saw k _ hn;have hY:=(hy.at_ hs).2.2.1.saw k _ hn;unfold rZ at hX hY;rw[h] at hX hY;exact .inr ⟨k,_,x,y,hn,h,h1,h2,h3,hX x h1,hY y h2⟩
theorem orderFrom_all{steps:List Stp}(hc:lC steps=false):∀(f:Nat)(done:Nat->Bool)(out:List Nat),dZ done steps.length<f->(∀i,i<steps.length->done i=true->i∈out)->∀i,i<steps.length->i∈kT steps f done out
 |0,_,_,h,_,_,_=>absurd h (by omega)
 |f+1,done,out,h,xR,i,hi=>by
  rw[kT];split
  ·rename_i hn
   cases hd:done i with
   |true=>exact xR i hi hd
   |false=>exact absurd hn (ready_some hc done hi hd)
  rename_i k rest hk;obtain⟨h1,h2,-⟩:=nF (show k∈bK steps done by rw[hk];simp);have:=gP h2 steps.length h1;refine orderFrom_all hc f _ _ (by omega) (fun j hj hjd=>?_) i hi;by_cases e:j=k
  ·subst e;simp
  have:done j=true:=by simpa[gS,e] using hjd
  exact List.mem_append.2 (.inl (xR j hj this))
theorem orderAll_all{steps:List Stp}(hc:lC steps=false){i:Nat}(hi:i<steps.length):i∈jN steps:=
 orderFrom_all hc _ _ _ (by have:=leftN_le (fun _=>false) steps.length;omega) (fun j _ h=>by cases h) i hi
theorem firstL_some{i:Nat}(h:mS r X Y=some i):i<r.steps.length/\(X.of i).saw=(Y.of i).saw/\(X.of i).out≠(Y.of i).out:=by
 unfold mS at h;have h1:=List.find?_some h;have h2:=List.mem_of_find?_eq_some h;simp only[Bool.and_eq_true,decide_eq_true_eq] at h1;exact⟨orderAll_lt h2,h1⟩
theorem found(hx:mI r la X px)(hy:mI r lb Y py){e:Nat}{L:List Nat}(h:ChainIs r X Y e L):(lR r X Y).isSome=true\/(mS r X Y).isSome=true:=by
 have uD:0<L.length:=(List.getElem?_eq_some_iff.1 h.head).1;have tX:L[L.length-1]? =some L[L.length-1]:=List.getElem?_eq_getElem (by omega);obtain⟨h1,h2,h3⟩:=h.at_ _ _ tX;rw[show L.length-1+1=L.length by omega,List.getElem?_eq_none (Nat.le_refl _)] at h3;have hs:=List.getElem?_eq_getElem h1;rcases chainNext_none hx hy hs h3 with h4|⟨k,n,x,y,h4,h5,h6,h7,h8,h9,FU⟩
 ·right;unfold mS;rw[List.find?_isSome];exact⟨_,orderAll_all hx.right.circ h1,by simp[h4,h2]⟩
 left;have hk:=hx.right.srcs _ (List.getElem_mem h1) n (List.mem_of_getElem? h4);unfold known at hk;rw[h5] at hk;simp only[Option.isSome_none,Bool.false_or] at hk;unfold kY at hk;rw[List.any_eq_true] at hk;obtain⟨f,hf,KS⟩:=hk;have hfn':f.name=n:=by simpa using KS
 unfold lR;rw[Option.isSome_map,List.find?_isSome];refine⟨f,hf,?_⟩;have e1:cW r X f.name=some x:=by unfold cW;rw[hfn',h5];simp only;rw[h9]
 have e2:cW r Y f.name=some y:=by unfold cW;rw[hfn',h5];simp only;rw[FU]
 rw[e1,e2];simpa using h8
end
end Go.Proofs.YtacgopankhpnbaaGreatDoor
namespace Go.Proofs.YtacgopankhpnbaaGreatDoor
theorem run_text{C:bA->Int×bA}{r:Rcp}{ck od nx:List Int}{a:List Dn}{s:bA}{X:RSt}(h:mZ C r ck od nx=.ok (a,s))(hX:bQ r a=some X):cW r X r.output=some s:=by
 obtain⟨F,X',px,hX',KT,C6,G3,-,-,hs⟩:=run_reads h;rw[hX] at hX';cases hX'
 cases hw:aK r.steps r.output with
 |some i=>
  have h1:=C6 r.output;rw[hs,<-h1];unfold cW;rw[hw];rfl
 |none=>
  obtain⟨t,ht⟩:=known_input KT.right.out hw;rw[hs,C6,G3 _ hw,ht];rfl
theorem pure_saw{C:bA->Int×bA}{s:Stp}{sa sb:List bA}{o1 o2:bA}{w1 w2:List bA}(h:bZ s=true)(h1:jH C s sa=.ok (o1,w1))(h2:jH C s sb=.ok (o2,w2))(hw:w1=w2):o1=o2:=by
 have hr:aM s=true:=by unfold bZ at h;simp only[Bool.and_eq_true] at h;exact h.1.1
 by_cases h5:s.kind=5
 ·unfold jH at h1 h2;rw[if_pos h5] at h1 h2;split at h1
  ·cases h1
  split at h1
  ·cases h1
  split at h2
  ·cases h2
  split at h2
  ·cases h2
  cases h1;cases h2;rw[hw]
 unfold jH at h1 h2;rw[if_neg h5] at h1 h2;split at h1
 ·cases h1
 split at h2
 ·cases h2
 have e1:=Except.ok.inj h1;have e2:=Except.ok.inj h2;have a1:=congrArg Prod.snd e1;have a2:=congrArg Prod.snd e2;have b1:=congrArg Prod.fst e1;have b2:=congrArg Prod.fst e2;dsimp only at a1 a2 b1 b2;rw[write_saws hr h5] at a1 a2;by_cases hk:s.kind=2
 ·have GP:s.sorted=true:=by
   unfold bZ at h;simp only[Bool.and_eq_true,Bool.or_eq_true,decide_eq_true_eq] at h;rcases h.2 with h3|h3
   ·exact absurd hk h3
   exact h3
  rw[<-b1,<-b2];unfold bE;simp only[if_neg (show ¬(s.kind=0\/s.kind=1) by omega),if_neg (show ¬s.kind=3 by omega),if_neg (show ¬s.kind=4 by omega)]
 rw[if_neg hk] at a1 a2;rw[<-b1,<-b2,a1,a2,hw]
theorem builds_law{C:bA->Int×bA}{r:Rcp}{ck od nx BY BN ME:List Int}{a b:List Dn}{s t:bA}(ha:mZ C r ck od nx=.ok (a,s))(hb:mZ C r BY BN ME=.ok (b,t)):
  ∃X Y,bQ r a=some X/\bQ r b=some Y/\lR r X Y=none/\(∀x,(cW r X x).isSome=(cW r Y x).isSome)/\(∀x,cW r X x≠cW r Y x->(mS r X Y).isSome=true)/\
   ∀i,mS r X Y=some i->∃s,r.steps[i]? =some s/\bZ s=false:=by
 obtain⟨F,X,px,hX,DE,C6,G3,f2,f3,-⟩:=run_reads ha;obtain⟨G,Y,py,hY,hfy,E0,KB,g2,g3,-⟩:=run_reads hb;have hR:=DE.right
 have xR:lR r X Y=none:=by
  unfold lR;rw[Option.map_eq_none_iff,List.find?_eq_none];intro f hf
  have hw:aK r.steps f.name=none:=by
   cases hw:aK r.steps f.name with
   |none=>rfl
   |some i=>
    obtain⟨s,hs,e⟩:=fL hw;have h1:=(writer_at hR.once hs).2;unfold kY at h1;rw[List.any_eq_false] at h1;exact absurd e.symm (by simpa using h1 f hf)
  rw[C6,E0,G3 _ hw,KB _ hw];simp
 refine⟨X,Y,hX,hY,xR,fun x=>?_,fun x hx=>?_,fun i hi=>?_⟩
 ·cases hw:aK r.steps x with
  |none=>rw[C6,E0,G3 _ hw,KB _ hw]
  |some i=>unfold cW;rw[hw];rfl
 ·cases hw:aK r.steps x with
  |none=>rw[C6,E0,G3 _ hw,KB _ hw] at hx;exact absurd rfl hx
  |some e=>
   have sC:(X.of e).out≠(Y.of e).out:=fun h=>hx (by unfold cW;rw[hw];simp only;rw[h]);obtain⟨s,hs,-⟩:=fL hw;have he:=(List.getElem?_eq_some_iff.1 hs).1;obtain⟨u,h1,h2,h3⟩:=chainFrom_ok DE hfy (r.steps.length+1) e [] (by have:=DE.pos_lt he;omega) he sC;have hc:ChainIs r X Y e (e::u):=⟨rfl,by have:=DE.pos_lt he;omega,h3⟩;rcases found DE hfy hc with h4|h4
   ·rw[xR] at h4;cases h4
   exact h4
 obtain⟨h1,h2,h3⟩:=firstL_some hi;have hs:=List.getElem?_eq_getElem h1;refine⟨_,hs,?_⟩;rw[<-Bool.not_eq_true];intro hp;obtain⟨k1,k2,-⟩:=DE.at_ hs;obtain⟨m1,m2,-⟩:=hfy.at_ hs;obtain⟨i1,e1,s1,xG,-,sa,-,q1⟩:=f2 _ (List.mem_of_getElem? k1);obtain⟨i2,e2,s2,JC,-,sb,-,q2⟩:=g2 _ (List.mem_of_getElem? m1);have a1:i1=i:=by rw[k2] at e1;exact(Int.ofNat_inj.1 e1).symm
 have a2:i2=i:=by rw[m2] at e2;exact(Int.ofNat_inj.1 e2).symm
 subst a1;rw[hs] at xG;cases xG;rw[a2,hs] at JC;cases JC;exact h3 (pure_saw hp (q1 hp) (q2 hp) h2)
theorem wrong_none{C:bA->Int×bA}{r:Rcp}{ck od nx:List Int}{a:List Dn}{s:bA}(ha:mZ C r ck od nx=.ok (a,s)):nD C r a=none:=by
 unfold nD;split
 ·rw[List.findIdx?_eq_none_iff];intro d hd;obtain⟨-,-,-,-,h,-⟩:=not_wrong ha d hd;exact h
 rfl
end Go.Proofs.YtacgopankhpnbaaGreatDoor
