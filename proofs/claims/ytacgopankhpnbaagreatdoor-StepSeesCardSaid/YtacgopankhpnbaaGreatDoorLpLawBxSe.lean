/- Texts of this seat, joined. -/
import Derived.Test.YtacgopankhpnbaaGreatDoorKX
import Derived.Test.YtacgopankhpnbaaGreatDoorLpLawBxSaSe
namespace Go.Proofs.YtacgopankhpnbaaGreatDoor
def iO(src:List ByteArray)(files:List Fil):List Fil:=files.reverse.filter (fun f=>src.any (fun x=>decide (x=f.name)))
theorem mem_less{src:List ByteArray}{files:List Fil}{f:Fil}:f∈iO src files↔f∈files/\f.name∈src:=by
 unfold iO;rw[List.mem_filter,List.mem_reverse,List.any_eq_true];simp
theorem less_right{src:List ByteArray}{files:List Fil}(h:aR files=true):aR (iO src files)=true/\(iO src files).length<=files.length:=by
 obtain⟨⟨h1,h2⟩,h3⟩:=(fM files).1 h
 have hl:(iO src files).length<=files.length:=by
  unfold iO;have:=List.length_filter_le (fun f:Fil=>src.any (fun x=>decide (x=f.name))) files.reverse;rw[List.length_reverse] at this;exact this
 refine⟨(fM _).2 ⟨⟨?_,fun f hf=>h2 f (mem_less.1 hf).1⟩,by omega⟩,hl⟩
 have hr:(files.reverse.map (·.name)).Nodup:=by
  rw[List.map_reverse];exact(List.reverse_perm _).nodup_iff.2 h1
 exact hr.sublist ((List.filter_sublist (p:=fun f:Fil=>src.any (fun x=>decide (x=f.name))) (l:=files.reverse)).map _)
theorem less_find{src:List ByteArray}{files:List Fil}(h:aR files=true){x:ByteArray}(hx:x∈src):aI (iO src files) x=aI files x:=by
 have h1:=((fM files).1 h).1.1;have h2:=((fM _).1 (less_right (src:=src) h).1).1.1;apply Option.ext;intro t;rw[find_iff h1,find_iff h2];constructor
 ·rintro⟨f,hf,e⟩;exact⟨f,(mem_less.1 hf).1,e⟩
 ·rintro⟨f,hf,e,e2⟩;exact⟨f,mem_less.2 ⟨hf,by rw[e];exact hx⟩,e,e2⟩
theorem less_out{src:List ByteArray}{files:List Fil}(h:aR files=true){x:ByteArray}(hx:aI files x=none):aI (iO src files) x=none:=by
 have h1:=((fM files).1 h).1.1;have h2:=((fM _).1 (less_right (src:=src) h).1).1.1
 cases hf:aI (iO src files) x with
 |none=>rfl
 |some t=>
  obtain⟨f,hf,e⟩:=(find_iff h2 x t).1 hf;have:=(find_iff h1 x t).2 ⟨f,(mem_less.1 hf).1,e⟩;rw[hx] at this;cases this
theorem saw_each{files:List Fil}:∀{src saw:List ByteArray},eT files src=some saw->saw.length=src.length/\∀(i:Nat)(t:ByteArray),saw[i]? =some t->∃n,src[i]? =some n/\aI files n=some t
 |[],saw,h=>by cases h;exact⟨rfl,fun i t h=>by simp at h⟩
 |x::r,saw,h=>by
  rw[eT] at h;split at h
  ·rename_i t l hf hl;cases h;obtain⟨h1,h2⟩:=saw_each hl;refine⟨by simp[h1],fun i y hy=>?_⟩
   cases i with
   |zero=>simp at hy;subst hy;exact⟨x,rfl,hf⟩
   |succ i=>exact h2 i y (by simpa using hy)
  ·cases h
theorem write_saw{s:Stp}{saw:List ByteArray}{ck od:List Int}{u0 u1:Int}(h:aP s=true)(h5:s.kind≠5):(s.kind=2->(aS s saw ck od u0 u1).2.1=[])/\(s.kind≠2->(aS s saw ck od u0 u1).2.1=saw):=by
 refine⟨fun k=>?_,fun k=>?_⟩
 ·unfold aS;rw[if_neg (by omega),if_neg (by omega),if_neg (by omega)];split<;>rfl
 ·unfold aS;split
  ·rfl
  split
  ·rfl
  split
  ·rfl
  ·exfalso;rcases right_kinds h with e|e|e|e|e|e<;>omega
theorem sees_law(C:ByteArray->Int×ByteArray)(s:Stp)(files:List Fil)(ck od:List Int):
  (∃c,c≠0/\aX C s files ck od 0 0=.error c/\(aX C s (iO s.src files) ck od 0 0=.error c\/c=1\/c=5\/c=6))\/
  (∃t saw a b,aX C s files ck od 0 0=.ok (t,saw,a,b)/\aX C s (iO s.src files) ck od 0 0=.ok (t,saw,a,b)/\(s.kind=2->saw=[])/\(s.kind≠2->saw.length=s.src.length)/\(∀(i:Nat)(x:ByteArray),saw[i]? =some x->∃n,s.src[i]? =some n/\aI files n=some x)):=by
 by_cases hb:(!aP s|| !aR files||decide (min (0:Int) 0<0))=true
 ·exact .inl ⟨1,by decide,by unfold aX;rw[if_pos hb],.inr (.inl rfl)⟩
 have hr:aP s=true/\aR files=true:=by
  simp only[Bool.or_eq_true,Bool.not_eq_true',not_or,Bool.not_eq_false] at hb;exact hb.1
 have hl:=less_right (src:=s.src) hr.2
 have hb2:¬(!aP s|| !aR (iO s.src files)||decide (min (0:Int) 0<0))=true:=by
  rw[hr.1,hl.1];decide
 by_cases hf:(aI files s.out).isSome=true
 ·exact .inl ⟨5,by decide,by unfold aX;rw[if_neg hb,if_pos hf],.inr (.inr (.inl rfl))⟩
 have hf0:aI files s.out=none:=by cases h:aI files s.out with|none=>rfl|some t=>rw[h] at hf;exact absurd rfl hf
 have hf2:¬(aI (iO s.src files) s.out).isSome=true:=by rw[less_out hr.2 hf0];decide
 by_cases h60:60<=files.length
 ·exact .inl ⟨6,by decide,by unfold aX;rw[if_neg hb,if_neg hf,if_pos h60],.inr (.inr (.inr rfl))⟩
 have h602:¬60<=(iO s.src files).length:=by omega
 have hsaw:eT (iO s.src files) s.src=eT files s.src:=less_saw (fun x hx=>less_find hr.2 hx)
 have key:aX C s (iO s.src files) ck od 0 0=aX C s files ck od 0 0:=by
  unfold aX;rw[if_neg hb,if_neg hf,if_neg h60,if_neg hb2,if_neg hf2,if_neg h602,hsaw]
 rw[key]
 cases hs:eT files s.src with
 |none=>
  refine .inl ⟨4,by decide,?_,.inl ?_⟩<;>(unfold aX;rw[if_neg hb,if_neg hf,if_neg h60,hs])
 |some saw=>
  obtain⟨e1,e2⟩:=saw_each hs;by_cases h5:s.kind=5
  ·by_cases he:(C (saw.headD ByteArray.empty)).1≠0
   ·refine .inl ⟨_,he,?_,.inl ?_⟩<;>(unfold aX;rw[if_neg hb,if_neg hf,if_neg h60,hs];simp only;rw[if_pos h5,if_pos he])
   ·by_cases hz:65536<(C (saw.headD ByteArray.empty)).2.size
    ·refine .inl ⟨6,by decide,?_,.inl ?_⟩<;>(unfold aX;rw[if_neg hb,if_neg hf,if_neg h60,hs];simp only;rw[if_pos h5,if_neg he,if_pos hz])
    ·refine .inr ⟨(C (saw.headD ByteArray.empty)).2,saw,0,0,?_,?_,fun k=>by omega,fun _=>e1,e2⟩<;>(unfold aX;rw[if_neg hb,if_neg hf,if_neg h60,hs];simp only;rw[if_pos h5,if_neg he,if_neg hz])
  ·obtain⟨w1,w2⟩:=write_saw (saw:=saw) (ck:=ck) (od:=od) (u0:=0) (u1:=0) hr.1 h5
   have hd:aX C s files ck od 0 0=if 65536<(aS s saw ck od 0 0).1.size then .error 6 else .ok (aS s saw ck od 0 0):=by
    unfold aX;rw[if_neg hb,if_neg hf,if_neg h60,hs];simp only;rw[if_neg h5]
   rw[hd];by_cases hz:65536<(aS s saw ck od 0 0).1.size
   ·exact .inl ⟨6,by decide,by rw[if_pos hz],.inl (by rw[if_pos hz])⟩
   ·refine .inr ⟨_,_,_,_,by rw[if_neg hz],by rw[if_neg hz],w1,fun k=>by rw[w2 k];exact e1,fun i x hx=>?_⟩;by_cases k:s.kind=2
    ·have h0:(aS s saw ck od 0 0).2.1[i]? =some x:=hx;rw[w1 k] at h0;simp at h0
    ·have h0:(aS s saw ck od 0 0).2.1[i]? =some x:=hx;rw[w2 k] at h0;exact e2 i x h0
end Go.Proofs.YtacgopankhpnbaaGreatDoor
