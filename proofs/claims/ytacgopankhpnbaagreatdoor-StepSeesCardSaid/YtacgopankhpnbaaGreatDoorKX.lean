/- Texts of this seat, joined. -/
import Derived.Test.YtacgopankhpnbaaGreatDoorKC
namespace Go.Proofs.YtacgopankhpnbaaGreatDoor
abbrev leB(x y:List UInt8):Bool:=decide (x<=y)
theorem leB_trans(a b c:List UInt8)(h:leB a b=true)(k:leB b c=true):leB a c=true:=by
 simp only[leB,decide_eq_true_eq] at *;exact List.le_trans h k
theorem leB_total(a b:List UInt8):(leB a b||leB b a)=true:=by
 simp only[leB,Bool.or_eq_true,decide_eq_true_eq];exact List.le_total a b
theorem leB_anti{a b:List UInt8}(h:leB a b=true)(k:leB b a=true):a=b:=by
 simp only[leB,decide_eq_true_eq] at *;exact List.le_antisymm h k
abbrev msort(l:List (List UInt8)):List (List UInt8):=l.mergeSort fun x y=>decide (x<=y)
theorem msort_sorted(l:List (List UInt8)):(msort l).Pairwise fun a b=>leB a b=true:=List.pairwise_mergeSort leB_trans leB_total l
theorem msort_perm(l:List (List UInt8)):(msort l).Perm l:=List.mergeSort_perm l _
theorem sorted_unique{l l':List (List UInt8)}(h:l.Pairwise fun a b=>leB a b=true)(h':l'.Pairwise fun a b=>leB a b=true)(p:l.Perm l'):l=l':=
 List.Perm.eq_of_pairwise (le:=fun a b=>leB a b=true) (fun _ _ _ _ h k=>leB_anti h k) h h' p
def insertS(x:List UInt8):List (List UInt8)->List (List UInt8)
 |[]=>[x]
 |y::l=>if leB x y then x::y::l else y::insertS x l
def isort:List (List UInt8)->List (List UInt8)
 |[]=>[]
 |x::l=>insertS x (isort l)
theorem insertS_perm(x:List UInt8)(l:List (List UInt8)):(insertS x l).Perm (x::l):=by
 induction l with
 |nil=>exact List.Perm.refl _
 |cons y l ih=>
  rw[insertS];split
  ·exact List.Perm.refl _
  ·exact((ih.cons y).trans (List.Perm.swap x y l))
theorem insertS_sorted(x:List UInt8)(l:List (List UInt8))(h:l.Pairwise fun a b=>leB a b=true):(insertS x l).Pairwise fun a b=>leB a b=true:=by
 induction l with
 |nil=>simp[insertS]
 |cons y l ih=>
  rw[insertS];rw[List.pairwise_cons] at h;split
  ·rename_i hxy;rw[List.pairwise_cons];refine⟨fun z hz=>?_,List.pairwise_cons.2 h⟩;rcases List.mem_cons.1 hz with rfl|hz
   ·exact hxy
   ·exact leB_trans _ _ _ hxy (h.1 z hz)
  ·rename_i hxy
   have hyx:leB y x=true:=by
    have:=leB_total x y;simp only[Bool.or_eq_true] at this;rcases this with h'|h'
    ·exact absurd h' hxy
    ·exact h'
   rw[List.pairwise_cons];refine⟨fun z hz=>?_,ih h.2⟩;rcases List.mem_cons.1 ((insertS_perm x l).mem_iff.1 hz) with rfl|hz
   ·exact hyx
   ·exact h.1 z hz
theorem isort_perm(l:List (List UInt8)):(isort l).Perm l:=by
 induction l with
 |nil=>exact List.Perm.refl _
 |cons x l ih=>exact(insertS_perm x _).trans (ih.cons x)
theorem isort_sorted(l:List (List UInt8)):(isort l).Pairwise fun a b=>leB a b=true:=by
 induction l with
 |nil=>simp[isort]
 |cons x l ih=>exact insertS_sorted x _ ih
theorem msort_eq(l:List (List UInt8)):msort l=isort l:=sorted_unique (msort_sorted l) (isort_sorted l) ((msort_perm l).trans (isort_perm l).symm)
theorem oD(l:List ByteArray):fI l=(isort (l.map (·.data.toList))).map fun x=>⟨x.toArray⟩:=by
 unfold fI;rw[show(l.map (·.data.toList)).mergeSort (fun x y=>decide (x<=y))=isort (l.map (·.data.toList)) from msort_eq _]
example:fI [⟨#[50]⟩,⟨#[49]⟩]=[⟨#[49]⟩,⟨#[50]⟩]:=by rw[oD];decide+kernel
theorem vC{p:Prop}(h:p:=by
 simp only[aX,aS,cK,oD];kernel_rfl):p:=h
def fC:List Fil:=[⟨⟨#[97]⟩,⟨#[50,10,49,10]⟩⟩,⟨⟨#[98]⟩,⟨#[120]⟩⟩]
theorem ex1:aX C0 ⟨3,[⟨#[97]⟩],⟨#[99]⟩,false⟩ fC [] [] 0 0=.ok (⟨#[49,10,50,10]⟩,[⟨#[50,10,49,10]⟩],0,0):=by
 exact vC
theorem ex2:aX C0 ⟨4,[⟨#[98]⟩],⟨#[99]⟩,false⟩ fC [70,80] [] 1 0=.ok (⟨#[120,56,48,59,10]⟩,[⟨#[120]⟩],2,0):=by
 exact vC
theorem ex3:aX C0 ⟨2,[⟨#[98]⟩,⟨#[97]⟩],⟨#[99]⟩,false⟩ fC [] [1] 0 0=.ok (⟨#[98,10,97,10]⟩,[],0,2):=by
 exact vC
theorem ex4:aX C0 ⟨2,[⟨#[98]⟩,⟨#[97]⟩],⟨#[99]⟩,true⟩ fC [] [1] 0 0=.ok (⟨#[97,10,98,10]⟩,[],0,0):=by
 exact vC
theorem ex5:aX C0 ⟨1,[⟨#[98]⟩,⟨#[97]⟩,⟨#[98]⟩],⟨#[98]⟩,false⟩ fC [] [] 0 0=.error 5:=by
 exact vC
theorem ex6:aX C0 ⟨0,[⟨#[100]⟩],⟨#[99]⟩,false⟩ fC [] [] 0 0=.error 4:=by
 exact vC
theorem ex7:aI fC ⟨#[98]⟩=some ⟨#[120]⟩:=by kernel_rfl
theorem ex8:aR fC=true:=by kernel_rfl
theorem ex9:aP ⟨0,[⟨#[98]⟩],⟨#[97]⟩,false⟩=true:=by kernel_rfl
theorem ex10:aP ⟨0,[],⟨#[]⟩,false⟩=false:=by kernel_rfl
theorem ex11:cH ⟨1,[],⟨#[97]⟩,false⟩=true:=by kernel_rfl
theorem ex12:cH ⟨2,[],⟨#[97]⟩,false⟩=false:=by kernel_rfl
theorem write_pure{s:Stp}(h:aP s=true)(h5:s.kind≠5)(saw:List ByteArray)(u0 u1:Int):
  (cH s=true/\∃t sw,∀ck od,aS s saw ck od u0 u1=(t,sw,u0,u1))\/
  (cH s=false/\∃sw,∀ck od,∃t,aS s saw ck od u0 u1=(t,sw,if s.kind=2 then(u0,u1+s.src.length) else(u0+1,u1))):=by
 unfold cH;rw[h];rcases right_kinds h with k|k|k|k|k|k
 ·exact .inl ⟨by simp[k],_,_,fun ck od=>by unfold aS;rw[if_pos (.inl k)]⟩
 ·exact .inl ⟨by simp[k],_,_,fun ck od=>by unfold aS;rw[if_pos (.inr k)]⟩
 ·cases hs:s.sorted with
  |true=>exact .inl ⟨by simp[k],_,_,fun ck od=>by unfold aS;rw[if_neg (by omega),if_neg (by omega),if_neg (by omega),if_pos hs]⟩
  |false=>exact .inr ⟨by simp[k],_,fun ck od=>⟨_,by unfold aS;rw[if_neg (by omega),if_neg (by omega),if_neg (by omega),if_neg (by rw[hs];decide),if_pos k]⟩⟩
 ·exact .inl ⟨by simp[k],_,_,fun ck od=>by unfold aS;rw[if_neg (by omega),if_pos k]⟩
 ·exact .inr ⟨by simp[k],_,fun ck od=>⟨_,by unfold aS;rw[if_neg (by omega),if_neg (by omega),if_pos k,if_neg (by omega)]⟩⟩
 ·exact absurd k h5
theorem pure_law(C:ByteArray->Int×ByteArray)(s:Stp)(files:List Fil)(ck od ck2 od2:List Int)(u0 u1:Int):
  (∃c,c≠0/\aX C s files ck od u0 u1=.error c/\(aX C s files ck2 od2 u0 u1=.error c\/c=6/\∃q,aX C s files ck2 od2 u0 u1=.ok q))\/
  (∃t saw,cH s=true/\aX C s files ck od u0 u1=.ok (t,saw,u0,u1)/\aX C s files ck2 od2 u0 u1=.ok (t,saw,u0,u1))\/
  (∃t saw,cH s=false/\aX C s files ck od u0 u1=.ok (t,saw,if s.kind=2 then(u0,u1+s.src.length) else(u0+1,u1))/\
   (aX C s files ck2 od2 u0 u1=.error 6\/∃t2,aX C s files ck2 od2 u0 u1=.ok (t2,saw,if s.kind=2 then(u0,u1+s.src.length) else(u0+1,u1)))):=by
 rcases doStep_cases C s files u0 u1 with⟨c,hc,h⟩|⟨saw,hr,-,-,⟨h5,h⟩|⟨h5,h⟩⟩
 ·exact .inl ⟨c,hc,h _ _,.inl (h _ _)⟩
 ·refine .inr (.inl ⟨_,saw,?_,h _ _,h _ _⟩);unfold cH;rw[hr];simp[h5]
 ·rcases write_pure hr h5 saw u0 u1 with⟨hp,t,sw,hw⟩|⟨hp,sw,hw⟩
  ·rw[h,h,hw,hw];by_cases hz:65536<t.size
   ·exact .inl ⟨6,by decide,by rw[if_pos hz],.inl (by rw[if_pos hz])⟩
   ·exact .inr (.inl ⟨t,sw,hp,by rw[if_neg hz],by rw[if_neg hz]⟩)
  ·obtain⟨t,e1⟩:=hw ck od;obtain⟨t2,e2⟩:=hw ck2 od2;rw[h,h,e1,e2];by_cases hz:65536<t.size
   ·refine .inl ⟨6,by decide,by rw[if_pos hz],?_⟩;by_cases hz2:65536<t2.size
    ·exact .inl (by rw[if_pos hz2])
    ·exact .inr ⟨rfl,_,by rw[if_neg hz2]⟩
   ·refine .inr (.inr ⟨t,sw,hp,by rw[if_neg hz],?_⟩);by_cases hz2:65536<t2.size
    ·exact .inl (by rw[if_pos hz2])
    ·exact .inr ⟨t2,by rw[if_neg hz2]⟩
end Go.Proofs.YtacgopankhpnbaaGreatDoor
