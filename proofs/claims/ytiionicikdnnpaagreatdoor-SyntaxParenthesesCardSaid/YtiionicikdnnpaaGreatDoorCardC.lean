/- Texts of this seat, joined. -/
import Derived.Test.YtiionicikdnnpaaGreatDoorCardB
import Derived.Lib.SmallJoins
set_option linter.unusedVariables false
set_option linter.unusedSimpArgs false
namespace Go.Proofs.YtiionicikdnnpaaGreatDoor
open Go.ChangeShapes Go.WideShapes Go.ChangeAt Go.RowKit Go.Deep
section
variable {H:Type} {enc:TypeId×Value->H} {P:Program} {w:World} {base:Nat} {spare:Nat->Bool} {held:Bool}
theorem open_slice_fields{t e:TypeId}{fs:Array Field}{fuel:Nat}{cs:List Value}{x:DataW H×List MemPlace}(ht:P.underlying t=some (.slice e))(he:P.underlying e=some (.struct fs))
  (MN:oneCellFields P fs=true) (hC:P.cellsOf e=fs.size) (h:DataW.trod enc P w base spare held fuel t cs=some x):
  (cs=[.slice none 0 0]/\x=(.nil,[]))\/
  ∃(a:Addr)(len cap m:Nat)(D:Nat->DataW H)(Pl:Nat->List MemPlace),cs=[.slice (some a) len cap]/\base<=a.block/\len<=cap/\cap<=maxLen/\m=(if spare a.block then cap else len)/\
   x=(.slice ((List.range len).map D) ((List.range (m-len)).map fun j=>D (len+j)),MemPlace.row a (m*fs.size)++(List.range m).flatMap Pl)/\
   ∀i,i<m->∃(ys:List (DataW H×List MemPlace))(n:Nat),D i=.agg (ys.map (·.1))/\Pl i=ys.flatMap (·.2)/\ys.length=fs.size/\
    ∀(j:Nat)(f:Field),fs[j]? =some f->∃(v:Value)(y:DataW H×List MemPlace),w.cell? (a.add (i*fs.size+j))=some v/\ys[j]? =some y/\DataW.trod enc P w base spare held n f.type [v]=some y:=by
 rcases open_slice ht h with h0|⟨a,len,cap,m,n,D,Pl,vB,hb,hl,hm,AT,hx,hi⟩
 ·exact .inl h0
 refine .inr ⟨a,len,cap,m,D,Pl,vB,hb,hl,hm,AT,by rw[hC] at hx;exact hx,fun i him=>?_⟩;obtain⟨cs',hc,JN⟩:=hi i him;rw[hC] at hc;obtain⟨ys,n',yW,hy,qG,hyl,hf⟩:=DataW.trod_struct he JN;obtain⟨_,hcl,qV⟩:=World.cells?_some hc;simp only[Prod.mk.injEq] at hy;refine⟨ys,n',hy.1,hy.2,hyl,fun j f hj=>?_⟩;obtain⟨ho,hk⟩:=hone_of MN j f hj;have LB:j<fs.size:=(Array.getElem?_eq_some_iff.1 hj).1;have uA:=qV j LB;have hv:cs'[j]? =some (cs'[j]' RY):=List.getElem?_eq_getElem RY;have h1:=hf j f hj;rw[ho,hk] at h1
 have hone':(cs'.drop j).take 1=[cs'[j]' RY]:=by
  rw[List.drop_eq_getElem_cons RY];rfl
 rw[hone'] at h1;have hys:ys[j]? =some (ys[j]' RY):=List.getElem?_eq_getElem RY;refine⟨_,_,?_,hys,h1.trans hys⟩;rw[<-Go.Deep.add_add,uA,hv]
end
section
variable {H:Type} {enc:TypeId×Value->H} {P:Program} {w:World}
theorem weightsEach_at:∀{ts:List TypeId}{ds:List (DataW H)}{j:Nat}{t:TypeId}{d:DataW H},(DataW.weightsEach P ts ds).all (· <=reachBytes)=true->ts[j]? =some t->ds[j]? =some d->(d.weights P t).all (· <=reachBytes)=true
 |[],_,j,_,_,_,h,_=>TP
 |_::_,[],j,_,_,_,_,h=>TP
 |t::ts,d::ds,j,t',d',h,h1,h2=>by
  simp only[DataW.weightsEach,List.all_append,Bool.and_eq_true] at h
  cases j with
  |zero=>simp at h1 h2;subst h1 h2;exact h.1
  |succ j=>exact weightsEach_at h.2 (by simpa using h1) (by simpa using h2)
theorem weights_agg{t:TypeId}{fs:Array Field}{ys:List (DataW H×List MemPlace)}(he:P.underlying t=some (.struct fs))(h:((DataW.agg (ys.map (·.1)):DataW H).weights P t).all (· <=reachBytes)=true){j:Nat}{f:Field}{y:DataW H×List MemPlace}
  (hf:fs[j]? =some f) (hy:ys[j]? =some y):(y.1.weights P f.type).all (· <=reachBytes)=true:=by
 rw[DataW.weights,he] at h;exact weightsEach_at h (j:=j) (by rw[List.getElem?_map,Array.getElem?_toList,hf];rfl) (by rw[List.getElem?_map,hy];rfl)
theorem weightsAll_each{e:TypeId}:∀{xs:List (DataW H)}{x:DataW H},(DataW.weightsAll P e xs).all (· <=reachBytes)=true->x∈xs->(x.weights P e).all (· <=reachBytes)=true
 |[],_,_,h=>TY
 |y::ys,x,h,hx=>by
  rw[DataW.weightsAll,List.all_append,Bool.and_eq_true] at h;rcases List.mem_cons.1 hx with rfl|hx
  ·exact h.1
  exact weightsAll_each h.2 hx
theorem open_row{α:Type}{ec:World->α->List Value->Prop}{t e:TypeId}{fs:Array Field}{fuel:Nat}{v:Value}{x:DataW H×List MemPlace}(ht:P.underlying t=some (.slice e))(he:P.underlying e=some (.struct fs))
  (MN:oneCellFields P fs=true) (hC:P.cellsOf e=fs.size) (sQ:0<fs.size) (h:DataW.trod enc P w 0 (fun _=>true) true fuel t [v]=some x) (hz:(x.1.weights P t).all (· <=reachBytes)=true)
  (hE:∀(vs:List Value)(_ys:List (DataW H×List MemPlace))(n:Nat),vs.length=fs.size->(∀(j:Nat)(f:Field),fs[j]? =some f->∃(u:Value)(y:DataW H×List MemPlace),vs[j]? =some u/\DataW.trod enc P w 0 (fun _=>true) true n f.type [u]=some y/\(y.1.weights P f.type).all (· <=reachBytes)=true)->∃y:α,ec w y vs):
  ∃(l:List α)(a:Option Addr)(c:Nat),v=.slice a l.length c/\Row fs.size ec w v l/\l.length*P.bytesOf e<=reachBytes:=by
 rcases open_slice_fields ht he MN hC h with⟨vB,-⟩|⟨a,len,cap,m,D,Pl,vB,-,hl,hm,AT,hx,hf⟩
 ·obtain rfl:v=.slice none 0 0:=by injection vB
  exact⟨[],none,0,rfl,⟨none,0,rfl,Nat.le_refl _,R2,fun h=>absurd rfl h⟩,R2⟩
 obtain rfl:v=.slice (some a) len cap:=by injection vB
 simp only[if_true] at AT;obtain rfl:cap=m:=AT.symm;subst hx;rw[DataW.weights,ht] at hz;simp only[List.all_cons,List.all_append,Bool.and_eq_true,decide_eq_true_eq,List.length_map,List.length_range] at hz;obtain⟨sG,rU,-⟩:=hz;have LA:len*P.bytesOf e<=reachBytes:=Nat.le_trans (Nat.mul_le_mul RY (Nat.le_refl _)) sG;rcases Nat.eq_zero_or_pos len with h0|hpos'
 ·subst h0;exact⟨[],some a,cap,rfl,⟨_,cap,rfl,R2,hm,fun h=>absurd rfl h⟩,R2⟩
 have hplain:a.spot=none:=by
  obtain⟨ys,n,-,-,hyl,hj⟩:=hf 0 RY;obtain⟨u,y,hc,-⟩:=hj 0 _ (Array.getElem?_eq_getElem sQ)
  cases hs:a.spot with
  |none=>rfl
  |some y=>simp[World.cell?,Addr.add,hs] at hc;split at hc<;>simp at hc
 obtain⟨b,o,s⟩:=a;obtain rfl:s=none:=hplain
 have each:∀i,i<len->∃y:α,ec w y ((List.range fs.size).map fun j=>(w.cell? ⟨b,o+i*fs.size+j,none⟩).getD undef):=fun i hi=>by
  obtain⟨ys,n,hD,-,hyl,hj⟩:=hf i RY;refine hE _ ys n R2 (fun j f hjf=>?_);obtain⟨u,y,hc,hy,htr⟩:=hj j f hjf;have LB:j<fs.size:=(Array.getElem?_eq_some_iff.1 hjf).1;rw[Addr.add_lit,<-Nat.add_assoc] at hc;refine⟨u,y,by simp[LB,hc],htr,?_⟩;have hw:=weightsAll_each rU (x:=D i) (List.mem_map.2 ⟨i,List.mem_range.2 hi,rfl⟩);rw[hD] at hw;exact weights_agg he hw hjf hy
 obtain⟨y0,-⟩:=each 0 hpos'
 have:∃g:Nat->α,∀i,i<len->ec w (g i) ((List.range fs.size).map fun j=>(w.cell? ⟨b,o+i*fs.size+j,none⟩).getD undef):=by
  refine⟨fun i=>if h:i<len then Classical.choose (each i h) else y0,fun i hi=>?_⟩;simp only[hi,dif_pos];exact Classical.choose_spec (each i hi)
 obtain⟨g,hg⟩:=this;refine⟨(List.range len).map g,some ⟨b,o,none⟩,cap,R2,⟨_,cap,R2,by simpa using hl,hm,fun _=>⟨b,o,rfl,fun i y hy=>?_⟩⟩,by simpa using LA⟩;rw[List.getElem?_map] at hy;obtain⟨j,hj,rfl⟩:=Option.map_eq_some_iff.1 hy;obtain⟨hi,AU⟩:=Yb.1 hj;simp at hi AU;subst AU;refine⟨_,hg _ hi,R2,fun k u hu=>?_⟩;rw[List.getElem?_map] at hu;obtain⟨k',hk,rfl⟩:=Option.map_eq_some_iff.1 hu;obtain⟨hk1,JS⟩:=Yb.1 hk;simp at hk1 JS;subst JS;obtain⟨ys,n,-,-,-,zT⟩:=hf i RY;obtain⟨u,y,hc,-⟩:=zT k _ (Array.getElem?_eq_getElem hk1);rw[Addr.add_lit,<-Nat.add_assoc] at hc;rw[hc];rfl
end
end Go.Proofs.YtiionicikdnnpaaGreatDoor
