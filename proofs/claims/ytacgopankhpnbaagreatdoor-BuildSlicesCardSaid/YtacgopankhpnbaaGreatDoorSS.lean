/- Texts of this seat, joined. -/
import Derived.Test.YtacgopankhpnbaaGreatDoorSR
set_option maxHeartbeats 8000000
set_option maxRecDepth 100000
set_option linter.unusedVariables false
set_option linter.unusedSimpArgs false
namespace Go.Proofs.YtacgopankhpnbaaGreatDoor
open Go.RowKit
theorem UO{p:Prop}(h:p:=by
 intro a n c e;rcases h.cases with⟨h0,-⟩|⟨b,o,c',hv,-,-,-,hb,-⟩
 ·exact absurd h0 pQ
 ·rw[hv] at e;injection e with e1;cases e1;exact hb):p:=h
def encDn(w:World)(y:Value×Dn)(cs:List Value):Prop:=cs=[.int .i64 y.2.step,y.1,.string y.2.out]/\Strs w y.1 y.2.saw/\y.2.out.size<=140737488355328
def Dns(w:World)(v:Value)(l:List (Value×Dn)):Prop:=Row 3 encDn w v l
theorem Dns.cases{w:World}{v:Value}{l:List (Value×Dn)}(h:Dns w v l):
  (l=[]/\∃a c,v=.slice a 0 c)\/(∃b o c,v=.slice (some ⟨b,o,none⟩) l.length c/\0<l.length/\l.length<=c/\c<=9223372036854775807/\b<w.heap.size/\
   ∀i y,l[i]? =some y->w.cell? ⟨b,o+i*3,none⟩=some (.int .i64 y.2.step)/\w.cell? ⟨b,o+i*3+1,none⟩=some y.1/\w.cell? ⟨b,o+i*3+2,none⟩=some (.string y.2.out)/\Strs w y.1 y.2.saw/\y.2.out.size<=140737488355328):=by
 rcases Row.cases h with h|⟨b,o,c,hv,h0,h1,h2,hb,hc⟩
 ·exact .inl h
 ·refine .inr ⟨b,o,c,hv,h0,h1,h2,hb,fun i y hy=>?_⟩;obtain⟨cs,⟨e,hs,hz⟩,-,hj⟩:=hc i y hy;subst e;exact⟨hj 0 _ rfl,hj 1 _ rfl,hj 2 _ rfl,hs,hz⟩
theorem dns_slice{w:World}{v:Value}{l:List (Value×Dn)}(h:Dns w v l):∃a c,v=.slice a l.length c:=by
 exact VB
def iY(l:List (Value×Dn)):List Value:=l.flatMap fun y=>[.int .i64 y.2.step,y.1,.string y.2.out]
theorem dnCells_snoc(l:List (Value×Dn))(y:Value×Dn):iY l++[.int .i64 y.2.step,y.1,.string y.2.out]=iY (l++[y]):=by simp[iY]
theorem dnCells_at:∀(l:List (Value×Dn))(i:Nat)(y:Value×Dn),l[i]? =some y->(iY l)[i*3]? =some (.int .i64 y.2.step)/\(iY l)[i*3+1]? =some y.1/\(iY l)[i*3+2]? =some (.string y.2.out)
 |[],i,y,h=>W9
 |x::l,0,y,h=>by simp at h;subst h;exact⟨rfl,rfl,rfl⟩
 |x::l,i+1,y,h=>by
  have:=dnCells_at l i y WI;rw[show iY (x::l)=[.int .i64 x.2.step,x.1,.string x.2.out]++iY l from rfl,show(i+1)*3=i*3+1+1+1 by omega];exact this
theorem dns_of_owns{w:World}{base:Nat}{e:TypeId}{v:Value}{l:List (Value×Dn)}(h:w.ownsRow base e 3 v l.length (iY l))(hz:∀y,y∈l->Strs w y.1 y.2.saw/\y.2.out.size<=140737488355328):Dns w v l:=by
 rcases h.2 with⟨rfl,h0⟩|⟨g,cap,cur,rfl,hg,yO,r1,r2,r3,r4⟩
 ·exact TO
 ·refine⟨_,cap,rfl,r1,r2,fun _=>⟨g,0,rfl,fun i y hy=>⟨_,⟨rfl,hz y (List.mem_of_getElem? hy)⟩,rfl,fun j u hu=>?_⟩⟩⟩;have hi:=(List.getElem?_eq_some_iff.1 hy).1;obtain⟨d0,d1,d2⟩:=dnCells_at l i y hy
  have get:∀k u,k<l.length*3->(iY l)[k]? =some u->w.cell? ⟨g,0+k,none⟩=some u:=fun k u hk hu=>by
   have:=congrArg (fun t:List Value=>t[k]?) r4;rw[List.getElem?_take,if_pos hk,hu] at this;have h2:cur[k]? =some u:=YK;simp[World.cell?,yO,h2]
  match j,hu with
  |0,hu=>cases hu;exact get _ _ VG d0
  |1,hu=>cases hu;rw[Nat.add_assoc];exact get _ _ VG d1
  |2,hu=>cases hu;rw[Nat.add_assoc];exact get _ _ VG d2
theorem Row.apart{α:Type}{k:Nat}{enc:World->α->List Value->Prop}{w w':World}{v:Value}{l:List α}(he:∀x cs,enc w x cs->enc w' x cs)(h:Row k enc w v l)
  (hb:∀a n c,v=.slice (some a) n c->l≠[]->w'.heap[a.block]? =w.heap[a.block]?):Row k enc w' v l:=by
 obtain⟨a,c,hv,h1,h2,h3⟩:=h;refine⟨a,c,hv,h1,h2,fun pQ=>?_⟩;obtain⟨b,o,ha,hc⟩:=h3 pQ;have hh:w'.heap[b]? =w.heap[b]? :=hb ⟨b,o,none⟩ _ _ (by rw[hv,ha]) pQ;refine⟨b,o,ha,fun i x hx=>?_⟩;obtain⟨cs,e,hl,hj⟩:=hc i x hx;exact⟨cs,he x cs e,hl,fun j u hu=>(World.cell?_of_block (w:=w) (a:=⟨b,o+i*k+j,none⟩) hh).trans (hj j u hu)⟩
theorem iB.apart{w w':World}{v:Value}{l:List Fil}(h:iB w v l)(hb:∀a n c,v=.slice (some a) n c->l≠[]->w'.heap[a.block]? =w.heap[a.block]?):iB w' v l:=Row.apart (w:=w) (fun _ _ h=>h) h hb
theorem Strs.apart{w w':World}{v:Value}{l:List ByteArray}(h:Strs w v l)(hb:∀a n c,v=.slice (some a) n c->l≠[]->w'.heap[a.block]? =w.heap[a.block]?):Strs w' v l:=Row.apart (w:=w) (fun _ _ h=>h) h hb
theorem dnInfo:(Tryz.prog.info? 59).map (fun i=>(i.zero,i.size,i.bytes))=some (some (.agg #[.int .i64 0,.slice none 0 0,.string ByteArray.empty]),3,48):=VH
theorem doStep_used{C:ByteArray->Int×ByteArray}{s:Stp}{files:List Fil}{clock order:List Int}{u0 u1 a b:Int}{text:ByteArray}{saw:List ByteArray}(h:cW C s files clock order u0 u1=.ok (text,saw,a,b)):
  aM s=true/\aJ files s.out=none/\text.size<=65536/\(a=u0\/a=u0+1)/\(b=u1\/b=u1+s.src.length):=by
 unfold cW at h;split at h
 ·cases h
 rename_i h1;split at h
 ·cases h
 rename_i h2;split at h
 ·cases h
 split at h
 ·cases h
 rename_i saw0 hs
 have hr:aM s=true:=by
  cases hh:aM s with
  |true=>rfl
  |false=>rw[hh] at h1;simp at h1
 have hf:aJ files s.out=none:=by simpa using h2
 split at h
 ·split at h
  ·cases h
  ·split at h
   ·cases h
   ·cases h;exact⟨hr,hf,VG,.inl rfl,.inl rfl⟩
 ·split at h
  ·cases h
  ·rename_i qK;(injection h with h);refine⟨hr,hf,?_⟩;unfold bG at h qK;split at h
   ·rename_i hk;rw[if_pos hk] at qK;cases h;exact⟨Y9,.inl rfl,.inl rfl⟩
   ·rename_i hk;rw[if_neg hk] at qK;split at h
    ·rename_i zN;rw[if_pos zN] at qK;cases h;exact⟨Y9,.inl rfl,.inl rfl⟩
    ·rename_i zN;rw[if_neg zN] at qK;split at h
     ·rename_i AG;rw[if_pos AG] at qK;cases h;exact⟨Y9,.inr rfl,.inl rfl⟩
     ·rename_i AG;rw[if_neg AG] at qK;split at h
      ·rename_i hk4;rw[if_pos hk4] at qK;cases h;exact⟨Y9,.inl rfl,.inl rfl⟩
      ·rename_i hk4;rw[if_neg hk4] at qK;cases h;exact⟨Y9,.inl rfl,.inr rfl⟩
theorem find_doFiles{s:Stp}{files:List Fil}{text:ByteArray}(h:aJ files s.out=none):aJ (eK s files text) s.out=some text:=by
 unfold aJ at h ⊢;unfold eK;rw[Option.map_eq_none_iff] at h;rw[List.find?_append,h];simp
def Clear(v:Value)(ub:Nat)(vL:Value):Prop:=∀a n c,v=.slice (some a) n c->a.block≠ub/\a.block≠ub+1/\vL.ownBlock≠some a.block
structure RunW (len:Nat) (wb:World) (done:Nat->Bool) (out:List (Value×Dn)) (files:List Fil) (u0 u1:Int) (v9 vL:Value) (wr:World):Prop where
 used:wr.heap[wb.heap.size]? =some (.cells #[.int .i64 u0,.int .i64 u1] 31)
 map:hZ wr (wb.heap.size+1) done len
 own:wr.ownsRow (wb.heap.size+1+1) 59 3 vL out.length (iY out)
 fils:iB wr v9 files
 fclr:files≠[]->Clear v9 wb.heap.size vL
 flt:files≠[]->∀a n c,v9=.slice (some a) n c->a.block<wr.heap.size
 saws:∀y,y∈out->Strs wr y.1 y.2.saw/\(y.2.saw≠[]->Clear y.1 wb.heap.size vL/\∀a n c,y.1=.slice (some a) n c->a.block<wr.heap.size)/\y.2.out.size<=140737488355328
 below:Below wb.heap.size wb wr
theorem strs_lt{w:World}{v:Value}{l:List ByteArray}(h:Strs w v l)(pQ:l≠[]):∀a n c,v=.slice (some a) n c->a.block<w.heap.size:=by
 exact UO
theorem fils_lt{w:World}{v:Value}{l:List Fil}(h:iB w v l)(pQ:l≠[]):∀a n c,v=.slice (some a) n c->a.block<w.heap.size:=by
 exact UO
theorem clear_of_far{wr:World}{v vL:Value}{wb:World}{e:TypeId}{size n:Nat}{xs:List Value}(h:FarFrom wr v)(pT:wb.heap.size+1<wr.heap.size)(pP:wr.ownsRow (wb.heap.size+1+1) e size vL n xs):Clear v wb.heap.size vL:=by
 intro a m c ha;have h1:=h a m c ha;refine⟨VG,VG,fun h2=>?_⟩;have:=(pP.lt _ h2).2;omega
section
variable {len:Nat} {wb:World} {done:Nat->Bool} {out:List (Value×Dn)} {files:List Fil} {u0 u1:Int} {v9 vL:Value} {wr:World}
theorem RunW.later{w':World}(h:RunW len wb done out files u0 u1 v9 vL wr)(hb:Below wr.heap.size wr w'):RunW len wb done out files u0 u1 v9 vL w':=by
 have hs:=hb.size
 exact⟨aF hb h.used,h.map.later hb,h.own.kept (row:=none) ⟨hb.os,hb.tape,hb.output,hb.size,fun k hk _=>hb.block k hk⟩ (Classical.em _),h.fils.later hb,h.fclr,
  fun pQ a n c e=>Nat.lt_of_lt_of_le (h.flt pQ a n c e) hs,
  fun y hy=>⟨(h.saws y hy).1.later hb,fun pQ=>⟨((h.saws y hy).2.1 pQ).1,fun a n c e=>Nat.lt_of_lt_of_le (((h.saws y hy).2.1 pQ).2 a n c e) hs⟩,(h.saws y hy).2.2⟩,aB h.below hb⟩
theorem RunW.did{w4 w5:World}{files':List Fil}{vfl vsaw:Value}{saw:List ByteArray}{a b:Int}(h:RunW len wb done out files u0 u1 v9 vL wr)(hb:Below wr.heap.size wr w4)(hF:iB w4 vfl files')(GP:FarFrom wr vfl)(hS:Strs w4 vsaw saw)(hsf:saw≠[]->FarFrom wr vsaw)
  (ho:bL wb.heap.size w4 w5) (hu:w5.heap[wb.heap.size]? =some (.cells #[.int .i64 a,.int .i64 b] 31)):
  RunW len wb done out files' a b vfl vL w5/\Strs w5 vsaw saw/\(saw≠[]->Clear vsaw wb.heap.size vL/\∀a n c,vsaw=.slice (some a) n c->a.block<w5.heap.size):=by
 have h4:=h.later hb;have PC:wb.heap.size+1<wr.heap.size:=h.map.lt;have uK:=hb.size;have KG:=ho.size;have N6:=clear_of_far GP PC h.own;have blk:∀{v:Value},Clear v wb.heap.size vL->(∀a n c,v=.slice (some a) n c->a.block<w4.heap.size)->∀a n c,v=.slice (some a) n c->w5.heap[a.block]? =w4.heap[a.block]? :=fun hc hl a n c e=>ho.block _ (hl a n c e) (hc a n c e).1;refine⟨⟨hu,h4.map.of_block (ho.block _ h4.map.lt VG),mJ h4.own ho VG,iB.apart hF (fun a n c e pQ=>blk N6 (fils_lt hF pQ) a n c e),fun _=>N6,fun pQ a n c e=>Nat.lt_of_lt_of_le (fils_lt hF pQ a n c e) KG,fun y hy=>?_,ho.below h4.below (Nat.le_refl _) (by have:=h4.below.size;omega)⟩,?_,?_⟩
 ·obtain⟨y1,y2,y3⟩:=h4.saws y hy;refine⟨Strs.apart y1 (fun a n c e pQ=>blk (y2 pQ).1 (y2 pQ).2 a n c e),fun pQ=>⟨(y2 pQ).1,fun a n c e=>Nat.lt_of_lt_of_le ((y2 pQ).2 a n c e) KG⟩,y3⟩
 ·exact Strs.apart hS (fun a n c e pQ=>blk (clear_of_far (hsf pQ) PC h.own) (strs_lt hS pQ) a n c e)
 ·exact fun pQ=>⟨clear_of_far (hsf pQ) PC h.own,fun a n c e=>Nat.lt_of_lt_of_le (strs_lt hS pQ a n c e) KG⟩
theorem RunW.added{w7:World}{y:Value×Dn}{g n' cap:Nat}{o:Obj}(h:RunW len wb done out files u0 u1 v9 vL wr)(hy:Strs wr y.1 y.2.saw/\(y.2.saw≠[]->Clear y.1 wb.heap.size vL/\∀a n c,y.1=.slice (some a) n c->a.block<wr.heap.size)/\y.2.out.size<=140737488355328)
  (pP:w7.ownsRow (wb.heap.size+1+1) 59 3 (.slice (some ⟨g,0,none⟩) n' cap) (out.length+1) (iY out++[.int .i64 y.2.step,y.1,.string y.2.out])) (hg:(wr.alloc o).grownBy w7 vL.ownBlock) (hl:vL.ownBlock=some g\/g=wr.heap.size+1):
  RunW len wb done (out++[y]) files u0 u1 v9 (.slice (some ⟨g,0,none⟩) n' cap) w7:=by
 have PC:wb.heap.size+1<wr.heap.size:=h.map.lt;have hz:wr.heap.size+1<=w7.heap.size:=XP
 have keep:∀k,k<wr.heap.size->vL.ownBlock≠some k->w7.heap[k]? =wr.heap[k]? :=fun k hk pQ=>by
  rw[hg.block k VZ (fun e=>pQ e.symm),Below.heap_alloc _ _ _ hk]
 have clr:∀{v:Value},Clear v wb.heap.size vL->(∀a n c,v=.slice (some a) n c->a.block<wr.heap.size)->Clear v wb.heap.size (.slice (some ⟨g,0,none⟩) n' cap):=fun hc pT a n c e=>by
  obtain⟨c1,c2,c3⟩:=hc a n c e;have:=pT a n c e;refine⟨c1,c2,fun e2=>?_⟩;have e3:g=a.block:=by simpa[Value.ownBlock] using e2
  rcases hl with hl|hl
  ·exact c3 (by rw[hl,e3])
  ·omega
 have blk:∀{v:Value},Clear v wb.heap.size vL->(∀a n c,v=.slice (some a) n c->a.block<wr.heap.size)->∀a n c,v=.slice (some a) n c->w7.heap[a.block]? =wr.heap[a.block]? :=fun hc pT a n c e=>keep _ (pT a n c e) (hc a n c e).2.2
 have one:∀z:Value×Dn,(Strs wr z.1 z.2.saw/\(z.2.saw≠[]->Clear z.1 wb.heap.size vL/\∀a n c,z.1=.slice (some a) n c->a.block<wr.heap.size)/\z.2.out.size<=140737488355328)->
   Strs w7 z.1 z.2.saw/\(z.2.saw≠[]->Clear z.1 wb.heap.size (.slice (some ⟨g,0,none⟩) n' cap)/\∀a n c,z.1=.slice (some a) n c->a.block<w7.heap.size)/\z.2.out.size<=140737488355328:=fun z ⟨z1,z2,z3⟩=>
  ⟨Strs.apart z1 (fun a n c e pQ=>blk (z2 pQ).1 (z2 pQ).2 a n c e),fun pQ=>⟨clr (z2 pQ).1 (z2 pQ).2,fun a n c e=>by have:=(z2 pQ).2 a n c e;omega⟩,z3⟩
 have nown:∀k,k<wb.heap.size+1+1->vL.ownBlock≠some k:=fun k hk e=>by have:=(h.own.lt k e).1;omega
 refine⟨by rw[keep _ VG (nown _ VG)];exact h.used,h.map.of_block (keep _ PC (nown _ VG)),?_,iB.apart h.fils (fun a n c e pQ=>blk (h.fclr pQ) (h.flt pQ) a n c e),fun pQ=>clr (h.fclr pQ) (h.flt pQ),fun pQ a n c e=>by have:=h.flt pQ a n c e;omega,fun z hz=>?_,?_⟩
 ·rw[List.length_append,List.length_singleton,<-dnCells_snoc];exact pP
 ·rcases List.mem_append.1 hz with hz|hz
  ·exact one z (h.saws z hz)
  ·simp at hz;subst hz;exact one z hy
 ·have hb:=h.below;exact⟨hg.os.trans hb.os,hg.tape.trans hb.tape,hg.output.trans hb.output,by have:=hb.size;omega,fun j hj=>(keep j VG (nown j VG)).trans (hb.block j hj)⟩
theorem RunW.marked{w8:World}{done':Nat->Bool}(h:RunW len wb done out files u0 u1 v9 vL wr)(hm:hZ w8 (wb.heap.size+1) done' len)(hg:wr.grownBy w8 (some (wb.heap.size+1))):RunW len wb done' out files u0 u1 v9 vL w8:=by
 have ho:=iE hg;have hM:=h.map.isMap;have hs:=ho.size;have PC:wb.heap.size+1<wr.heap.size:=h.map.lt;refine⟨hM.box ho h.used,hm,mJ h.own ho VG,h.fils.onlyMap hM ho,h.fclr,fun pQ a n c e=>Nat.lt_of_lt_of_le (h.flt pQ a n c e) hs,fun y hy=>?_,ho.below h.below VG VG⟩;obtain⟨y1,y2,y3⟩:=h.saws y hy;exact⟨y1.onlyMap hM ho,fun pQ=>⟨(y2 pQ).1,fun a n c e=>Nat.lt_of_lt_of_le ((y2 pQ).2 a n c e) hs⟩,y3⟩
theorem RunW.dns(h:RunW len wb done out files u0 u1 v9 vL wr):Dns wr vL out:=dns_of_owns h.own (fun y hy=>⟨(h.saws y hy).1,(h.saws y hy).2.2⟩)
theorem RunW.first{vf:Value}(hf:iB wb vf files)(AL:len<=60):
  RunW len wb (fun _=>false) [] files 0 0 vf (.slice none 0 0) ((wb.alloc (.cells #[.int .i64 0,.int .i64 0] 31)).alloc (.map #[] 0)):=by
 have B1:=aA wb (.cells #[.int .i64 0,.int .i64 0] 31);have B2:=aA (wb.alloc (.cells #[.int .i64 0,.int .i64 0] 31)) (.map #[] 0);have hl:∀pQ:files≠[],∀a n c,vf=.slice (some a) n c->a.block<wb.heap.size:=fun pQ=>fils_lt hf pQ;refine⟨aF B2 (aN _ _),?_,by simpa[iY] using World.ownsRow_nil _ _ _ _,hf.later (aB B1 B2),fun pQ a n c e=>?_,fun pQ a n c e=>?_,fun y hy=>(by cases hy),aB B1 B2⟩
 ·have:=hZ.first (wb.alloc (.cells #[.int .i64 0,.int .i64 0] 31)) len VG;exact TU
 ·have:=hl pQ a n c e;exact⟨VG,VG,XZ⟩
 ·have:=hl pQ a n c e;simp only[World.size_alloc];omega
end
structure RunS (C:ByteArray->Int×ByteArray) (r:Rcp) (clock order next:List Int) (len:Nat) (done:Nat->Bool) (out:List (Value×Dn)) (files:List Fil) (u0 u1:Int):Prop where
 cnt:out.length+dF done len=len
 b0:0<=u0/\u0<=1000*out.length
 b1:0<=u1/\u1<=1000*out.length
 left:runAll C r clock order next=jM C r.steps clock order next (dF done len+1) done (out.map (·.2)) files u0 u1
def RunPost(w:World)(res:Except Int (List Dn×ByteArray))(e:Ending)(w':World):Prop:=
 Below w.heap.size w w'/\match res with
  | .error c=>e=.returned (.tuple #[.slice none 0 0,.string ⟨#[]⟩,.int .i64 c])
  | .ok (out,text)=>∃v L,e=.returned (.tuple #[v,.string text,.int .i64 0])/\Dns w' v L/\L.map (·.2)=out
section
variable {C:ByteArray->Int×ByteArray} {r:Rcp} {clock order next:List Int} {len:Nat} {done:Nat->Bool} {out:List (Value×Dn)} {files:List Fil} {u0 u1:Int}
theorem RunS.first(hl:r.steps.length=len):RunS C r clock order next len (fun _=>false) [] r.inputs 0 0:=
 ⟨by rw[mS];simp,VL,VL,by rw[mS,<-hl];rfl⟩
theorem RunS.pick(_h:RunS C r clock order next len done out files u0 u1)(hl:r.steps.length=len)(hr:bC r.steps done≠[]):∃s,r.steps[eG (bC r.steps done) next out.length]? =some s/\eG (bC r.steps done) next out.length<len/\done (eG (bC r.steps done) next out.length)=false:=by
 obtain⟨h1,h2,-⟩:=oW (choose_mem next out.length hr);exact⟨_,List.getElem?_eq_getElem h1,by rw[<-hl];exact h1,h2⟩
theorem RunS.at_(h:RunS C r clock order next len done out files u0 u1)(hr:bC r.steps done≠[]){s:Stp}(hs:r.steps[eG (bC r.steps done) next out.length]? =some s):
  runAll C r clock order next=match cW C s files clock order u0 u1 with
   | .error e=>.error e
   | .ok (text,saw,a,b)=>jM C r.steps clock order next (dF done len) (jI done (eG (bC r.steps done) next out.length)) (out.map (·.2)++[⟨(eG (bC r.steps done) next out.length:Nat),saw,text⟩]) (eK s files text) a b:=by
 rw[h.left,jM,if_neg (by simpa using hr),List.length_map];show(match r.steps[eG (bC r.steps done) next out.length]? with|none=>_|some s=>_)=_;rw[hs];rfl
theorem RunS.end_(h:RunS C r clock order next len done out files u0 u1)(hr:bC r.steps done=[]):runAll C r clock order next=.ok (out.map (·.2),files):=by
 rw[h.left,jM,if_pos (by simp[hr])]
theorem RunS.next_(h:RunS C r clock order next len done out files u0 u1)(hl:r.steps.length=len)(hr:bC r.steps done≠[]){s:Stp}(hs:r.steps[eG (bC r.steps done) next out.length]? =some s){text:ByteArray}{saw:List ByteArray}{a b:Int}{v:Value}
  (hd:cW C s files clock order u0 u1=.ok (text,saw,a,b)):RunS C r clock order next len (jI done (eG (bC r.steps done) next out.length)) (out++[(v,⟨(eG (bC r.steps done) next out.length:Nat),saw,text⟩)]) (eK s files text) a b:=by
 obtain⟨-,-,h1,h2⟩:=h.pick hl hr;have h3:=gL h2 len h1;obtain⟨h4,-,-,h5,h6⟩:=doStep_used hd;have h7:=(dS h4).2.2.1;have e:=h.at_ hr hs;rw[hd] at e;have h8:=h.cnt;have h9:=h.b0;have CS:=h.b1;refine⟨VZ,VZ,VZ,?_⟩;rw[e,h3,List.map_append];rfl
end
end Go.Proofs.YtacgopankhpnbaaGreatDoor
namespace Go.Proofs.YtacgopankhpnbaaGreatDoor
open Go.RowKit
def DoAll(C:ByteArray->Int×ByteArray)(s:Stp):Prop:=∀files clock order vf vl vc vo vn u0 u1 w,DoIn s files clock order vf vl vc vo vn u0 u1 w->Calls Tryz.prog 17 (nJ s vf vl vc vo vn u0 u1) w (DoFar w s files u0 u1 (cW C s files clock order u0 u1))
theorem doAll_plain{C:ByteArray->Int×ByteArray}{s:Stp}(h5:s.kind≠5):DoAll C s:=fun files clock order vf vl vc vo vn u0 u1 w h=>do_far C s files clock order vf vl vc vo vn u0 u1 w h h5
structure WldIn (clock order next:List Int) (vc vo vn:Value) (w:World):Prop where
 clk:gN w vc clock
 ord:gN w vo order
 nxt:gN w vn next
 cwf:∀x,x∈clock->(Lit.int .i64 x).wf=true
 owf:∀x,x∈order->(Lit.int .i64 x).wf=true
 nwf:∀x,x∈next->(Lit.int .i64 x).wf=true
section
variable {clock order next:List Int} {vc vo vn:Value} {w w':World}
theorem WldIn.later(h:WldIn clock order next vc vo vn w)(hb:Below w.heap.size w w'):WldIn clock order next vc vo vn w':=⟨h.clk.later hb,h.ord.later hb,h.nxt.later hb,h.cwf,h.owf,h.nwf⟩
theorem WldIn.slices(h:WldIn clock order next vc vo vn w):(∃a c,vc=.slice a clock.length c)/\(∃a c,vo=.slice a order.length c)/\(∃a c,vn=.slice a next.length c):=by
 obtain⟨a,c,h1,-⟩:=h.clk;obtain⟨a',c',h2,-⟩:=h.ord;obtain⟨a'',c'',h3,-⟩:=h.nxt;exact⟨⟨a,c,h1⟩,⟨a',c',h2⟩,⟨a'',c'',h3⟩⟩
end
theorem box2{w:World}{k:Nat}{a b:Value}{t:TypeId}(h:w.heap[k]? =some (.cells #[a,b] t)):w.cell? ⟨k,0,none⟩=some a/\w.cell? ⟨k,1,none⟩=some b/\w.frozen? ⟨k,0,none⟩=false/\w.frozen? ⟨k,1,none⟩=false:=by
 refine⟨?_,?_,?_,?_⟩<;>simp[World.cell?,World.frozen?,h]
theorem set2{w:World}{k:Nat}{a b x y:Value}{t:TypeId}(h:w.heap[k]? =some (.cells #[a,b] t)):((w.setCell ⟨k,0,none⟩ x).setCell ⟨k,1,none⟩ y).heap[k]? =some (.cells #[x,y] t):=by
 exact UG
theorem fils_form{w:World}{v:Value}{l:List Fil}(h:iB w v l):∃a c,v=.slice a l.length c:=by
 exact VB
theorem own_form{w:World}{base:Nat}{e:TypeId}{size:Nat}{v:Value}{n:Nat}{xs:List Value}(h:w.ownsRow base e size v n xs):∃a c,v=.slice a n c:=by
 rcases h.2 with⟨rfl,h0⟩|⟨g,cap,cur,rfl,_⟩
 ·subst h0;exact⟨_,_,rfl⟩
 ·exact⟨_,_,rfl⟩
theorem dM{w:World}{b b' o o' o'':Nat}{v v' x:Value}(pT:b<b')(h:w.cell? ⟨b,o,none⟩=some x):((w.setCell ⟨b',o',none⟩ v).setCell ⟨b',o'',none⟩ v').cell? ⟨b,o,none⟩=some x:=cell_set2 (Apart.of VG) h
def ldUsed:Op:=.load 31 (.tmp 10)
theorem ldUsed_def:ldUsed=Op.load 31 (Operand.tmp 10):=rfl
abbrev wldBox(vc vo vn:Value):Obj:=.cells #[vc,vo,vn] 28
theorem run_bad(C:ByteArray->Int×ByteArray)(r:Rcp)(L:List (Value×Stp))(vi vs vc vo vn:Value)(clock order next:List Int)(w:World)(h:eL r L vi vs w)(hw:WldIn clock order next vc vo vn w)(he:aU r≠0):
  Calls Tryz.prog 29 #[lY vi vs r.output,.agg #[vc,vo,vn]] w (RunPost w (mE C r clock order next)):=by
 have HI:=zh (h.later (aB (aA w (bK vi vs r.output)) (aA _ (wldBox vc vo vn)))).inspect;have HR:=zh (show mE C r clock order next=.error (aU r) by unfold mE;rw[if_pos he]);rw[HR.out];obtain⟨⟨a1,c1,rfl⟩,⟨a2,c2,rfl⟩,⟨a3,c3,rfl⟩⟩:=hw.slices;obtain⟨ai,ci,av,cv,rfl,rfl⟩:=h.slices;have h0:(aU r==0)=false:=beq_eq_false_iff_ne.2 he;have h1:(aU r != 0)=true:=YE;obtain⟨q,hq⟩:∃q,q=aU r:=⟨_,rfl⟩;have HQ:=zh hq;rw[<-hq] at h0 h1 ⊢;clear h he hw HR hq;go_enter Tryz.func29,Tryz.ntmps29;go_wp2_with fail;refine HI.out.mono ?_;rintro e w2 ⟨rfl,hb,-⟩;rw[<-HQ.out];have HB:=zh hb;clear hb;go_wp2_with fail;refine bodyPost_ret (v:=.tuple #[.slice none 0 0,.string ⟨#[]⟩,.int .i64 q]) XB rfl ⟨?_,rfl⟩;exact aB (aB (aB (aA _ _) (aA _ _)) HB.out) (aA _ _)
theorem doStep_err{C:ByteArray->Int×ByteArray}{s:Stp}{files:List Fil}{clock order:List Int}{u0 u1 q:Int}(h:cW C s files clock order u0 u1=.error q):q≠0:=by
 unfold cW at h;split at h
 ·cases h;decide
 split at h
 ·cases h;decide
 split at h
 ·cases h;decide
 split at h
 ·cases h;decide
 split at h
 ·split at h
  ·rename_i hq;cases h;exact hq
  ·split at h
   ·cases h;decide
   ·cases h
 ·split at h
  ·cases h;decide
  ·cases h
def finishL(o:ByteArray):Except Int (List Dn×List Fil)->Except Int (List Dn×ByteArray)
 | .error e=>.error e
 | .ok (out,files)=>.ok (out,(aJ files o).getD ByteArray.empty)
theorem run_good(C:ByteArray->Int×ByteArray)(r:Rcp)(L:List (Value×Stp))(vi vs vc vo vn:Value)(clock order next:List Int)(w:World)(h:eL r L vi vs w)(hw:WldIn clock order next vc vo vn w)(hG:dH w)(hD:∀s,s∈r.steps->DoAll C s)(he:aU r=0):
  Calls Tryz.prog 29 #[lY vi vs r.output,.agg #[vc,vo,vn]] w (RunPost w (mE C r clock order next)):=by
 have HI:=zh (h.later (aB (aA w (bK vi vs r.output)) (aA _ (wldBox vc vo vn)))).inspect;have HE:=zh (show mE C r clock order next=finishL r.output (runAll C r clock order next) by unfold mE;rw[if_neg (by simp[he])];rfl);rw[HE.out];have HR:=zh (lU he);have hlen:=h.len;have yA:L.length<=60:=by have:=HR.out.few;omega
 have JG:=zh (show ∀y,y∈L->y.2.src.length<=1000000 from fun y hy=>by
  have:=HR.out.steps y.2 XV;have:=(dS this).2.2.1
  omega)
 have uQ:=zh h;have F2:=zh hw;have HG:=zh hG;have HD:=zh hD;have vZ:=@run_makeMap Tryz.prog;obtain⟨⟨a1,c1,rfl⟩,⟨a2,c2,rfl⟩,⟨a3,c3,rfl⟩⟩:=hw.slices;obtain⟨ai,ci,av,cv,rfl,rfl⟩:=h.slices;have H0:=zh he;have sD:=zh hlen;have hil:r.inputs.length<=60:=by have:=HR.out.room;omega
 clear h he hlen HE hw hG hD;go_enter Tryz.func29,Tryz.ntmps29;go_wp2_with fail;refine HI.out.mono ?_;rintro e w2 ⟨rfl,hb,hm⟩;obtain⟨nw,ni,NM,-⟩:=hm H0.out;have B1:=aA w (bK (.slice ai r.inputs.length ci) (.slice av L.length cv) r.output);have B2:=aA (w.alloc (bK (.slice ai r.inputs.length ci) (.slice av L.length cv) r.output)) (wldBox (.slice a1 clock.length c1) (.slice a2 order.length c2) (.slice a3 next.length c3));have B4:=aA w2 (bR (.slice ai r.inputs.length ci) (.slice av L.length cv) r.output (w.heap.size+1+1+1+1) (w.heap.size+1+1+1+1+1));have vJ:=zh (aB (aB (aB B1 B2) hb) B4);have wL:=zh (aF (aB (aB B2 hb) B4) (aN w (bK (.slice ai r.inputs.length ci) (.slice av L.length cv) r.output)))
 have HWb:=zh (show(w2.alloc (bR (.slice ai r.inputs.length ci) (.slice av L.length cv) r.output (w.heap.size+1+1+1+1) (w.heap.size+1+1+1+1+1))).heap[w.heap.size+1]? =some (wldBox (.slice a1 clock.length c1) (.slice a2 order.length c2) (.slice a3 next.length c3)) by
  have:=aF (aB hb B4) (aN (w.alloc (bK (.slice ai r.inputs.length ci) (.slice av L.length cv) r.output)) (wldBox (.slice a1 clock.length c1) (.slice a2 order.length c2) (.slice a3 next.length c3)))
  simpa only[World.size_alloc] using this)
 have HGb:=zh (aN w2 (bR (.slice ai r.inputs.length ci) (.slice av L.length cv) r.output (w.heap.size+1+1+1+1) (w.heap.size+1+1+1+1+1)))
 have M0:=zh (show aW eI vInt (w2.alloc (bR (.slice ai r.inputs.length ci) (.slice av L.length cv) r.output (w.heap.size+1+1+1+1) (w.heap.size+1+1+1+1+1))) (w.heap.size+1+1+1+1) nw (kD r.steps) by
  have:=NM.later B4;simpa only[World.size_alloc] using this)
 rw[H0.out];have r0:=(fF wL.out).1;clear hb hm NM HI B1 B2 B4;go_wp2_with fail;generalize w2.alloc (bR (.slice ai r.inputs.length ci) (.slice av L.length cv) r.output (w.heap.size+1+1+1+1) (w.heap.size+1+1+1+1+1))=w3 at vJ wL HWb HGb M0 r0 ⊢;generalize w2.heap.size=pg at HGb ⊢;refine(clone_any r.inputs _ w3 (uQ.out.inp.later vJ.out) VG).mono ?_;rintro e wb ⟨v9,rfl,pP,hb⟩;have HBb:=zh (aB vJ.out hb)
 replace wL:=zh (aF hb wL.out)
 replace HWb:=zh (aF hb HWb.out)
 replace HGb:=zh (aF hb HGb.out)
 replace M0:=zh (M0.out.later hb)
 have R8:=zh (fils_of_owns pP (fun f hf=>fils_size uQ.out.inp hf));have GV:=zh (show Grf r L (.slice ai r.inputs.length ci) (.slice av L.length cv) (w.heap.size+1+1+1+1) (w.heap.size+1+1+1+1+1) wb from⟨uQ.out.later HBb.out,⟨nw,M0.out⟩,yA,JG.out⟩);have zU:=zh (RunW.first (len:=L.length) R8.out yA);have KS:=zh (RunS.first (C:=C) (clock:=clock) (order:=order) (next:=next) sD.out)
 have AV:Hid (∀done W,Below wb.heap.size wb W->hZ W (wb.heap.size+1) done L.length->Calls Tryz.prog 64 #[grfV (.slice ai r.inputs.length ci) (.slice av L.length cv) r.output (w.heap.size+1+1+1+1) (w.heap.size+1+1+1+1+1),.map (some (wb.heap.size+1))] W (fK (bC r.steps done) W)):=
  zh fun done W hb hd=>ready_any r L _ _ _ _ (wb.heap.size+1) done W (GV.out.later hb) hd.is
 obtain⟨g0,g1,g2,g3,g4⟩:=box5 (aF zU.out.below HGb.out);clear pP hb r0;go_wp2_with fail;refine(AV.out (fun _=>false) _ zU.out.below zU.out.map).mono ?_;rintro e w6 ⟨v13,rfl,hI,-,hb⟩;have HI:=zh hI;have HRW6:=zh (zU.out.later hb);clear hI hb zU g0 g1 g2 g3 g4;obtain⟨i0,tF,rS,qI,qH⟩:=info_parts dnInfo;go_wp2_with fail;go_loopw [9,12,13] (fun v9 vL v13 wr=>∃(done:Nat->Bool)(out:List (Value×Dn))(files:List Fil)(u0 u1:Int),Hid (RunW L.length wb done out files u0 u1 v9 vL wr)/\Hid (RunS C r clock order next L.length done out files u0 u1)/\Hid (gN wr v13 (bE (bC r.steps done)))) (fun _ vL _ _=>L.length-kS vL)
 case atStart=>exact⟨_,_,_,_,_,HRW6,KS,HI⟩
 case round=>
  clear HRW6 KS HI R8;obtain⟨done,out,files,c0,JE,zU,KS,HI⟩:=hrel;rename World=>wr
  generalize hv9:u9=v9 at *;generalize hv12:u12=vL at *;generalize hv13:u13=v13 at *;clear hv9 hv12 hv13
  obtain⟨a13,c13,e13⟩:∃a c,v13=.slice a (bC r.steps done).length c:=by
   obtain⟨a,c,hv,-⟩:=HI.out;exact⟨a,c,by rw[hv];simp⟩
  obtain⟨a9,c9,e9⟩:=fils_form zU.out.fils;obtain⟨a12,c12,e12⟩:=own_form zU.out.own;subst e13 e9 e12;have uR:=zh (aB HBb.out zU.out.below);obtain⟨r0,r1,r2⟩:=fF (aF zU.out.below wL.out);by_cases hr:bC r.steps done=[]
  ·have J8:=zh (KS.out.end_ hr);have OQ:=zh hr;(have h0:(bC r.steps done).length=0:=by rw[hr];rfl);rw[h0];clear hr h0;go_wp2_with fail;refine(find_any files _ r.output _ zU.out.fils).mono ?_;rintro e w7 ⟨rfl,hb⟩;have HD7:=zh (zU.out.later hb).dns;have xO:=zh (aB uR.out hb);clear hb
   cases hf:aJ files r.output with
   |none=>
    have R7:=zh (show jX files r.output=.tuple #[.string ByteArray.empty,.bool false] by unfold jX;rw[hf]);have HFf:=zh hf;clear hf;rw[R7.out];go_wp2_with fail;refine bodyPost_ret (v:=.tuple #[.slice a12 out.length c12,.string ByteArray.empty,.int .i64 0]) XB rfl ?_;rw[J8.out];exact⟨xO.out,_,out,by rw[HFf.out];rfl,HD7.out,rfl⟩
   |some t=>
    have R7:=zh (show jX files r.output=.tuple #[.string t,.bool true] by unfold jX;rw[hf]);have HFf:=zh hf;clear hf;rw[R7.out];go_wp2_with fail;refine bodyPost_ret (v:=.tuple #[.slice a12 out.length c12,.string t,.int .i64 0]) XB rfl ?_;rw[J8.out];exact⟨xO.out,_,out,by rw[HFf.out];rfl,HD7.out,rfl⟩
  ·have rL:0<(bC r.steps done).length:=List.length_pos_iff.2 hr;obtain⟨st,hs,pT,hdn⟩:=KS.out.pick sD.out hr;have HRn:=zh hr;have HC:=zh (choose_any (bC r.steps done) next out.length _ (.slice a3 next.length c3) wr HI.out (F2.out.later uR.out).nxt rL F2.out.nwf);have HAt:=zh (KS.out.at_ hr hs);have HNx:=zh (fun(text:ByteArray)(saw:List ByteArray)(a b:Int)(v:Value)(hd:cW C st files clock order c0 JE=.ok (text,saw,a,b))=>KS.out.next_ (v:=v) sD.out hr hs hd);(generalize eG (bC r.steps done) next out.length=i at HC hs pT hdn HAt HNx);obtain⟨x0,x1,x2⟩:=fF (aF zU.out.below HWb.out)
   obtain⟨y,hy,ES⟩:∃y,L[i]? =some y/\y.2=st:=by
    obtain⟨y,hy,-⟩:=getElem?_of_lt pT;refine⟨y,hy,?_⟩;(have:(L.map (·.2))[i]? =some st:=by rw[uQ.out.map];exact hs);rw[List.getElem?_map,hy] at this;exact Option.some.inj this
   subst ES;rcases uQ.out.stp.cases with⟨e,-⟩|⟨b,o,cc,e,-,-,-,rZ,hc⟩
   ·rw[e] at pT;simp at pT
   (obtain⟨rfl,rfl⟩:av=some ⟨b,o,none⟩/\cc=cv:=by injection e with e1 e2 e3;exact⟨e1,e3.symm⟩);obtain⟨s0,s1,s2,s3,hsrc,PG⟩:=hc i y hy;have uO:=zh s2
   replace s0:=aC uR.out s0
   replace s1:=aC uR.out s1
   replace s2:=aC uR.out s2
   replace s3:=aC uR.out s3
   replace hsrc:=hsrc.later uR.out
   have BB:w.heap.size+1<wb.heap.size:=(Array.getElem?_eq_some_iff.1 HWb.out).1;have PX:w.heap.size<wb.heap.size:=VG;have NU:b<wb.heap.size:=VG;obtain⟨t0,t1,f0,f1⟩:=box2 zU.out.used;have FV:=KS.out.b0;have pS:=KS.out.b1
   have KI:out.length<L.length:=by
    have h1:=KS.out.cnt;have h2:=leftN_pos pT hdn;omega
   have HDi:=zh (show DoIn y.2 files clock order y.1 (.slice a9 files.length c9) (.slice a1 clock.length c1) (.slice a2 order.length c2) (.slice a3 next.length c3) c0 JE wr.drew from
    ⟨(HG.out.later uR.out).later (Below.refl _ _).drew,hsrc.later (Below.refl _ _).drew,PG,zU.out.fils.later (Below.refl _ _).drew,(F2.out.later uR.out).clk.later (Below.refl _ _).drew,(F2.out.later uR.out).ord.later (Below.refl _ _).drew,⟨_,_,_,rfl⟩,VG,VG,F2.out.cwf,F2.out.owf⟩)
   have HDo:=zh (HD.out y.2 (List.mem_of_getElem? hs) _ _ _ _ _ _ _ _ _ _ _ HDi.out);have PC:=zU.out.map.lt;have HDn:=zh hdn;have AQ:=zh (show kS (.slice a12 out.length c12)=out.length from rfl);clear hc e hr hs hdn HI;obtain⟨yv,kind,src,yo,sorted⟩:=y;obtain⟨ya,yc,hyv⟩:=gI hsrc;simp only at s0 s1 s2 s3 PG HDo HAt HNx hyv;subst hyv;have HSo:=zh PG;have hbi0:(0:Int)<=(i:Int):=VG;have hbi1:(i:Int)<(L.length:Int):=VG;clear hsrc PG hy;go_wp2_with fail;refine HC.out.mono ?_;rintro e w7 ⟨rfl,rfl⟩;go_wp2_with fail;have hld:=ldUsed_def
   cases hd:cW C ⟨kind,src,yo,sorted⟩ files clock order c0 JE with
   |error q=>
    rw[hd] at HDo HAt;have hq:=doStep_err hd;have vY:(q==0)=false:=beq_eq_false_iff_ne.2 hq;(have yV:(q != 0)=true:=by rw[bne_iff_ne];exact hq);clear hd HNx hq;rw[<-ldUsed_def]
    go_region_held3 (fun W=>W.cell? ⟨w.heap.size,1,none⟩=some (.slice (some ⟨b,o,none⟩) L.length cc)/\(W.cell? ⟨b,o+i*4,none⟩=some (.int .i64 kind)/\W.cell? ⟨b,o+i*4+1,none⟩=some (.slice ya src.length yc)/\W.cell? ⟨b,o+i*4+2,none⟩=some (.string yo)/\W.cell? ⟨b,o+i*4+3,none⟩=some (.bool sorted))/\(W.cell? ⟨w.heap.size+1,0,none⟩=some (.slice a1 clock.length c1)/\W.cell? ⟨w.heap.size+1,1,none⟩=some (.slice a2 order.length c2)/\W.cell? ⟨w.heap.size+1,2,none⟩=some (.slice a3 next.length c3)))
     (first|(with_reducible exact⟨r1,⟨s0,s1,s2,s3⟩,x0,x1,x2⟩)|(with_reducible exact⟨l1,⟨m0,m1,m2,m3⟩,n0,n1,n2⟩)|exact⟨dM PX l1,⟨dM NU m0,dM NU m1,dM NU m2,dM NU m3⟩,dM BB n0,dM BB n1,dM BB n2⟩|go_keep)
     (first|(go_at_call 17;(with_reducible refine HDo.out.mono ?_);rintro e w8 ⟨hb,rfl⟩;have sC:Below wr.heap.size wr w8:=(Below.refl _ wr).drew.trans hb;have l1:=aC sC r1;have m0:=aC sC s0;have m1:=aC sC s1;have m2:=aC sC s2;have m3:=aC sC s3;have n0:=aC sC x0;have n1:=aC sC x1;have n2:=aC sC x2;obtain⟨p0,p1,q0,q1⟩:=box2 (aF sC zU.out.used);have zH:=zh sC;clear hb sC))
    have HBe:=zh (show Below w.heap.size w ((w8.setCell ⟨wb.heap.size,0,none⟩ (.int .i64 c0)).setCell ⟨wb.heap.size,1,none⟩ (.int .i64 JE)) from
     ((aB uR.out zH.out).setCell (by have:=HBb.out.size;simp;omega) _).setCell (by have:=HBb.out.size;simp;omega) _)
    go_wp2_with fail;refine bodyPost_ret (v:=.tuple #[.slice none 0 0,.string ⟨#[]⟩,.int .i64 q]) XB rfl ?_;rw[HAt.out];exact⟨HBe.out,rfl⟩
   |ok res=>
    obtain⟨text,saw,ua,ub⟩:=res;rw[hd] at HDo;have HNx2:=zh (fun v=>HNx.out _ _ _ _ v hd);have HUs:=zh (doStep_used hd);clear hd HAt HNx;rw[<-ldUsed_def]
    go_region_held3 (fun W=>W.cell? ⟨w.heap.size,1,none⟩=some (.slice (some ⟨b,o,none⟩) L.length cc)/\(W.cell? ⟨b,o+i*4,none⟩=some (.int .i64 kind)/\W.cell? ⟨b,o+i*4+1,none⟩=some (.slice ya src.length yc)/\W.cell? ⟨b,o+i*4+2,none⟩=some (.string yo)/\W.cell? ⟨b,o+i*4+3,none⟩=some (.bool sorted))/\(W.cell? ⟨w.heap.size+1,0,none⟩=some (.slice a1 clock.length c1)/\W.cell? ⟨w.heap.size+1,1,none⟩=some (.slice a2 order.length c2)/\W.cell? ⟨w.heap.size+1,2,none⟩=some (.slice a3 next.length c3)))
     (first|(with_reducible exact⟨r1,⟨s0,s1,s2,s3⟩,x0,x1,x2⟩)|(with_reducible exact⟨l1,⟨m0,m1,m2,m3⟩,n0,n1,n2⟩)|exact⟨dM PX l1,⟨dM NU m0,dM NU m1,dM NU m2,dM NU m3⟩,dM BB n0,dM BB n1,dM BB n2⟩|go_keep)
     (first|(go_at_call 17;(with_reducible refine HDo.out.mono ?_);rintro e w8 ⟨hb,vfl,vsaw,rfl,hF,hS,GP,hsf⟩;have sC:Below wr.heap.size wr w8:=(Below.refl _ wr).drew.trans hb;have l1:=aC sC r1;have m0:=aC sC s0;have m1:=aC sC s1;have m2:=aC sC s2;have m3:=aC sC s3;have n0:=aC sC x0;have n1:=aC sC x1;have n2:=aC sC x2;obtain⟨p0,p1,q0,q1⟩:=box2 (aF sC zU.out.used);have HF8:=zh hF;have DJ:=zh hS;have HFf:=zh GP;have HSf:=zh hsf;have zH:=zh sC;clear hb hF hS GP hsf sC))
    have HDid:=zU.out.did zH.out HF8.out HFf.out DJ.out HSf.out ((bL.setCell w8).trans (bL.setCell _)) (set2 (x:=.int .i64 ua) (y:=.int .i64 ub) (aF zH.out zU.out.used));obtain⟨hW9,hS9,hC9⟩:=HDid
    have J7:=zh (show jX (eK ⟨kind,src,yo,sorted⟩ files text) yo=.tuple #[.string text,.bool true] by
     unfold jX;rw[find_doFiles (s:=⟨kind,src,yo,sorted⟩) HUs.out.2.1])
    generalize eK ⟨kind,src,yo,sorted⟩ files text=files' at hW9 HNx2 J7;have HW9:=zh hW9;have zS:=zh hS9;have HC9:=zh hC9;obtain⟨af,cf,ef⟩:=fils_form HW9.out.fils;obtain⟨as',cs',es⟩:=gI zS.out;subst ef es;have hts:=HUs.out.2.2.1;clear hW9 hS9 hC9 HF8 DJ HFf HSf l1 m0 m1 m2 m3 n0 n1 n2 p0 p1 q0 q1 r0 r1 r2 x0 x1 x2 s0 s1 s2 s3 t0 t1 f0 f1;generalize ((w8.setCell ⟨wb.heap.size,0,none⟩ (.int .i64 ua)).setCell ⟨wb.heap.size,1,none⟩ (.int .i64 ub))=w9 at HW9 zS HC9 ⊢;obtain⟨r0,r1,r2⟩:=fF (aF HW9.out.below wL.out);have s2:=aC (aB HBb.out HW9.out.below) uO.out;go_wp2_with fail;refine(find_any files' _ yo _ HW9.out.fils).mono ?_;rw[J7.out];rintro e qJ ⟨rfl,hb⟩;have RB:=zh (HW9.out.later hb)
    have HY:=zh (show Strs qJ (.slice as' saw.length cs') saw/\(saw≠[]->Clear (.slice as' saw.length cs') wb.heap.size (.slice a12 out.length c12)/\∀a n c,Value.slice as' saw.length cs'=.slice (some a) n c->a.block<qJ.heap.size)/\text.size<=140737488355328 from
     ⟨zS.out.later hb,fun pQ=>⟨(HC9.out pQ).1,fun a n c e=>Nat.lt_of_lt_of_le ((HC9.out pQ).2 a n c e) hb.size⟩,VG⟩)
    have hw10:=RB.out.map.lt;clear hb r0 r1 r2 s2;go_wp2_with(at_builtin;refine wpList_append_lies _ rfl _ _ 54 rfl (wb.heap.size+1+1) 59 i0 (.agg #[.int .i64 0,.slice none 0 0,.string ByteArray.empty]) 3 48 Tryz.underlying54 tF rS qI qH rfl VG (.slice a12 out.length c12) out.length (iY out) WF (RB.out.own.alloc _) ⟨qJ.heap.size,0,none⟩ 1 1 [.int .i64 i,.slice as' saw.length cs',.string text] WF rfl (World.news_of_block (cs:=#[.int .i64 i,.slice as' saw.length cs',.string text]) (t:=59) (fr:=(0,0)) (heap_alloc_new qJ _)) VX VG VR VG VZ (qJ.heap.size+1) VL ?_);intro g cap vK pP pO qA NP;have HW11:=zh (RB.out.added (y:=(.slice as' saw.length cs',⟨(i:Int),saw,text⟩)) HY.out pP pO qA);obtain⟨qS,sB,BY,hg12⟩:=HW11.out.map.set (i:=i) pT HDn.out VG;have MJ:=zh (HW11.out.marked BY hg12);obtain⟨g0,g1,g2,g3,g4⟩:=box5 (aF MJ.out.below HGb.out);clear pP pO qA BY hg12;go_wp2_with fail;refine(AV.out _ qS MJ.out.below MJ.out.map).mono ?_;rintro e tE ⟨v13',rfl,hI,-,hb⟩;have HI13:=zh hI;have HW13:=zh (MJ.out.later hb);clear hI hb g0 g1 g2 g3 g4;go_wp2_with fail;go_roundw;(case rel=>exact⟨_,_,_,_,_,HW13,zh (HNx2.out _),HI13⟩);case measure=>simp[kS];omega
end Go.Proofs.YtacgopankhpnbaaGreatDoor
namespace Go.Proofs.YtacgopankhpnbaaGreatDoor
open Go.RowKit
theorem also_true{st:Nat->Bool}{i j:Nat}(h:st j=true):jI st i j=true:=by unfold jI;split<;>simp[h]
theorem foldl_true{g:(Nat->Bool)->Nat->(Nat->Bool)}(hg:∀st i j,st j=true->g st i j=true):∀(l:List Nat)(st:Nat->Bool)(j:Nat),st j=true->l.foldl g st j=true
 |[],_,_,h=>h
 |a::l,st,j,h=>foldl_true hg l (g st a) j (hg st a j h)
theorem grow_true(needs:Nat->List Nat):∀(f:Nat)(st:Nat->Bool)(i j:Nat),st j=true->grow needs f st i j=true
 |0,_,_,_,h=>h
 |f+1,st,i,j,h=>by
  rw[grow];split
  ·exact h
  ·exact foldl_true (grow_true needs f) _ _ _ (also_true h)
theorem leftN_mono{a b:Nat->Bool}(h:∀j,a j=true->b j=true):∀n,dF b n<=dF a n
 |0=>Nat.le_refl _
 |n+1=>by
  have:=leftN_mono h n;rw[dF,dF]
  cases ha:a n with
  |true=>rw[h n ha];simp;omega
  |false=>simp only[Bool.false_eq_true,if_false];split<;>omega
theorem foldl_snoc{α:Type}(g:α->Nat->α)(l:List Nat)(st:α){k x:Nat}(hx:l[k]? =some x):(l.take (k+1)).foldl g st=g ((l.take k).foldl g st) x:=by
 rw[List.take_add_one,hx];simp
structure Sl (r:Rcp) (L:List (Value×Stp)) (vi vs:Value) (bw bi bm pi pg pv:Nat) (w:World) (st:Nat->Bool):Prop where
 box:w.heap[pi]? =some (.cells #[.map (some bm)] 104)
 gr:w.heap[pg]? =some (bR vi vs r.output bw bi)
 fn:w.heap[pv]? =some (.cells #[.func (.func 66) #[] #[.pointer (some ⟨pi,0,none⟩),.pointer (some ⟨pg,0,none⟩),.pointer (some ⟨pv,0,none⟩)]] 107)
 grf:Grf r L vi vs bw bi w
 ne:bw≠bm
 map:hZ w bm st L.length
section
variable {r:Rcp} {L:List (Value×Stp)} {vi vs:Value} {bw bi bm pi pg pv:Nat} {w w':World} {st:Nat->Bool}
theorem Sl.later(h:Sl r L vi vs bw bi bm pi pg pv w st)(hb:Below w.heap.size w w'):Sl r L vi vs bw bi bm pi pg pv w' st:=
 ⟨aF hb h.box,aF hb h.gr,aF hb h.fn,h.grf.later hb,h.ne,h.map.later hb⟩
theorem Sl.set(h:Sl r L vi vs bw bi bm pi pg pv w st){i:Nat}(hi:i<L.length)(hd:st i=false):
  ∃w',(Instr.mapUpdate 104 (.map (some bm)) (.int .i64 i) (.bool true)).run Tryz.prog w=.ok () w'/\Sl r L vi vs bw bi bm pi pg pv w' (jI st i)/\bL bm w w':=by
 obtain⟨w',h1,h2,h3⟩:=h.map.set hi hd (by have:=h.grf.few;omega);have ho:=iE h3;have hM:=h.map.isMap;exact⟨w',h1,⟨hM.box ho h.box,hM.box ho h.gr,hM.box ho h.fn,h.grf.onlyMap hM ho h.ne,h.ne,h2⟩,ho⟩
def SlPost(r:Rcp)(L:List (Value×Stp))(vi vs:Value)(bw bi bm pi pg pv:Nat)(w:World)(st:Nat->Bool)(e:Ending)(w':World):Prop:=
 e=.returned (.tuple #[])/\Sl r L vi vs bw bi bm pi pg pv w' st/\bL bm w w'
end
theorem enters_slice1:∀args w,(callFunc 66 args).run Tryz.prog w=.ok (.enter 66 args) w:=enters_of Tryz.func66 VH rfl
theorem slice1_any(r:Rcp)(L:List (Value×Stp))(vi vs:Value)(bw bi bm pi pg pv:Nat)(hlen:r.steps.length=L.length):∀(f:Nat)(w:World)(st:Nat->Bool)(i:Nat),Sl r L vi vs bw bi bm pi pg pv w st->i<L.length->dF st L.length<f->
  Calls Tryz.prog 66 #[.int .i64 i,.pointer (some ⟨pi,0,none⟩),.pointer (some ⟨pg,0,none⟩),.pointer (some ⟨pv,0,none⟩)] w (SlPost r L vi vs bw bi bm pi pg pv w (grow (aY r.steps) f st i))
 |0,w,st,i,_,_,h=>absurd h VG
 |f+1,w,st,i,h,hi,hf=>by
  have IH:=zh (slice1_any r L vi vs bw bi bm pi pg pv hlen f);have hl:=h.map.is.look (i:=i) (by have:=h.grf.few;omega);have c0:=box1 h.box;have eg:=enters_slice1
  cases vE:st i with
  |true=>
   have HG:=zh (show grow (aY r.steps) (f+1) st i=st by rw[grow,if_pos vE]);have HS:=zh h;rw[vE] at hl;clear h vE IH hf;go_enter Tryz.func66,Tryz.ntmps66;go_wp2_with fail;go_end0;exact⟨rfl,by rw[HG.out];exact HS.out,bL.refl _ _⟩
  |false=>
   have HG:=zh (show grow (aY r.steps) (f+1) st i=(aY r.steps i).foldl (grow (aY r.steps) f) (jI st i) by rw[grow,if_neg (by simp[vE])]);obtain⟨w1,sB,h1,pV⟩:=h.set hi vE;have hz:=gL vE L.length hi;have qI:dF (jI st i) L.length<f:=VG;have HZ:=zh qI;have tC:=zh h1;have RY:=zh pV;have HN:=zh (h1.grf.needs hi);obtain⟨g0,g1,g2,g3,g4⟩:=box5 h1.gr;rw[vE] at hl;rw[HG.out];have BG:=zh (fun j(hj:j∈aY r.steps i)=>show j<L.length by rw[<-hlen];exact lJ hj);generalize aY r.steps i=l at HN BG ⊢;have F9:=zh hlen;clear h vE hz qI h1 pV hlen hf HG;go_enter Tryz.func66,Tryz.ntmps66;go_wp2_with fail;refine HN.out.mono ?_;rintro e w2 ⟨v,rfl,hI,-,hb⟩;have uO:=zh (tC.out.later hb);have F7:=zh (RY.out.trans (bL.of_below hb));have HI:=zh hI
   obtain⟨a,c,hv⟩:∃a c,v=.slice a l.length c:=by
    obtain⟨a,c,hv,-⟩:=hI;exact⟨a,c,by rw[hv];simp⟩
   have hll:l.length<=9223372036854775807:=by
    obtain⟨a,c,hv,h1,h2,-⟩:=hI;simp at h1;omega
   subst hv;clear hI hb g0 g1 g2 g3 g4 c0 hl sB tC;go_wp2_with fail;(go_loopw [17] (fun idx wr=>∃k:Nat,k<=l.length/\idx=.int .i64 k/\Hid (Sl r L vi vs bw bi bm pi pg pv wr ((l.take k).foldl (grow (aY r.steps) f) (jI st i)))/\Hid (bL bm w2 wr)) (fun idx _=>l.length-(intOf idx).toNat));case atStart=>exact⟨0,Nat.zero_le _,rfl,uO,zh (bL.refl _ _)⟩
   case round=>
    obtain⟨k,hk,rfl,HS,HO⟩:=hrel;(rename World=>wr);by_cases pT:k<l.length
    ·obtain⟨x,hx,BN⟩:=getElem?_of_lt pT;rcases(HI.out.onlyMap uO.out.map.isMap HO.out).cases with⟨e,-⟩|⟨b,o,cc,e,-,-,-,-,hc⟩
     ·rw[bE,List.map_eq_nil_iff] at e;subst e;simp at pT
     obtain⟨rfl,rfl⟩:a=some ⟨b,o,none⟩/\c=cc:=WJ;have cx:wr.cell? ⟨b,o+k,none⟩=some (.int .i64 x):=hc k x (by simp[bE,hx]);have cv:=box1 HS.out.fn;have hlx:dF ((l.take k).foldl (grow (aY r.steps) f) (jI st i)) L.length<f:=Nat.lt_of_le_of_lt (leftN_mono (fun j hj=>foldl_true (grow_true _ _) _ _ _ hj) _) HZ.out;have HC:=zh (IH.out wr _ x HS.out (BG.out x BN) hlx);have HSn:=zh (foldl_snoc (grow (aY r.steps) f) l (jI st i) hx);rw[<-HSn.out] at HC;clear hc e hx BN hlx;go_wp2_with(go_at_fn 66;(with_reducible refine HC.out.mono ?_);rintro e w3 ⟨rfl,h3,pY⟩);go_roundw;(case rel=>exact⟨k+1,VG,VT,zh h3,zh (HO.out.trans pY)⟩);case measure=>simp[intOf];omega
    ·obtain rfl:k=l.length:=VG;rw[List.take_length] at HS;go_wp2_with fail;go_end0;exact⟨rfl,HS.out,F7.out.trans HO.out⟩
end Go.Proofs.YtacgopankhpnbaaGreatDoor
