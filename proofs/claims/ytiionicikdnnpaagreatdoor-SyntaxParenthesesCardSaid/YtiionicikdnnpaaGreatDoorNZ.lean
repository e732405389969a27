/- Texts of this seat, joined. -/
import Derived.Test.YtiionicikdnnpaaGreatDoorNX
import Derived.Test.YtiionicikdnnpaaGreatDoorNG
set_option maxHeartbeats 16000000
set_option maxRecDepth 100000
set_option linter.unusedVariables false
set_option linter.unusedSimpArgs false
namespace Go.Proofs.YtiionicikdnnpaaGreatDoor
def Nz{α:Type}(r:PR α):Prop:=∀x,r=.error x->x.2≠0
section
variable {l:List Tok} {α β:Type}
theorem Nz.ok{a:α}{j:Nat}:Nz (.ok (a,j):PR α):=fun x h=>TY
theorem Nz.stop{i:Nat}{e:Int}(he:e≠0):Nz (gO l i e:PR α):=fun x h=>by unfold gO at h;cases h;exact he
theorem Nz.bnd{m:PR α}{k:α->Nat->PR β}(h:Nz m)(hk:∀a j,Nz (k a j)):Nz (m.bnd k):=fun x hx=>by
 cases hm:m with
 |error y=>rw[hm] at hx;have hx:(.error y:PR β)=.error x:=hx;injection hx with e;rw[<-e];exact h y hm
 |ok r=>obtain⟨a,j⟩:=r;rw[hm] at hx;exact hk a j x hx
theorem Nz.ite{c:Prop}[Decidable c]{a b:PR α}(h1:Nz a)(h2:Nz b):Nz (if c then a else b):=by split<;>assumption
theorem gS{i:Nat}{s:bA}:Nz (dD l i s):=by unfold dD;exact .ite .ok (.stop R0)
theorem end_nz{i:Nat}{f:Bool}{s:bA}:Nz (kL l i f s):=UX
theorem name_nz{i:Nat}:Nz (fC l i):=by unfold fC;exact .ite .ok (.stop R0)
theorem fresh_nz{i:Nat}{k:bA->Bool}:Nz (fO l i k):=UY
theorem later_nz{i:Nat}{t:bA}{b:Bool}:Nz (eC l i t b):=T7
theorem room_nz{i a b:Nat}:Nz (eH l i a b):=by unfold eH;exact .ite .ok (.stop R0)
section
variable {rec:RecP} (hr:∀f i,Nz (rec f i))
include hr
omit hr in
theorem dots_nz:∀(F:Nat)(e:Xp)(i:Nat),Nz (iK l F e i)
 |0,e,i=>.ok
 |F+1,e,i=>by unfold iK;exact .ite (.bnd name_nz fun a j=>dots_nz F _ j) .ok
theorem ops_nz(form:Nat):∀(F own:Nat)(e:Xp)(i:Nat),Nz (kR l rec form F own e i)
 |0,own,e,i=>.ok
 |F+1,own,e,i=>by
  unfold kR;split
  ·exact .ok
  exact .ite .ok (.bnd (hr _ _) fun a j=>ops_nz form F _ _ j)
theorem operandsFrom_nz:∀(F:Nat)(out:List Xp)(i:Nat),Nz (bF l rec F out i)
 |0,out,i=>.ok
 |F+1,out,i=>by
  unfold bF;exact .bnd (.ite room_nz .ok) fun _ _=>.bnd (hr _ _) fun e j=>.ite (operandsFrom_nz F _ _) (.bnd gS fun _ _=>.ok)
theorem operands_nz{i:Nat}:Nz (eO l rec i):=by unfold eO;exact .bnd gS fun _ j=>.ite .ok (operandsFrom_nz hr _ _ _)
theorem recordFrom_nz:∀(F:Nat)(names:List bA)(args:List Xp)(last:bA)(i:Nat),Nz (bV l rec F names args last i)
 |0,_,_,_,_=>.ok
 |F+1,names,args,last,i=>by
  unfold bV;exact .bnd (.ite room_nz .ok) fun _ _=>.bnd later_nz fun s j=>.bnd gS fun _ j2=>.bnd (hr _ _) fun e j3=>.ite (recordFrom_nz F _ _ _ _) (.bnd gS fun _ _=>.ok)
theorem paren_nz{i:Nat}:Nz (kQ l rec i):=by unfold kQ;exact .bnd (hr _ _) fun e j=>.bnd gS fun _ _=>.ok
theorem primary_nz{i:Nat}:Nz (aP l rec i):=by
 unfold aP;refine .ite .ok (.ite .ok (.ite .ok (.ite (.bnd name_nz fun _ _=>.ok) (.ite (.bnd gS fun _ j=>.bnd (paren_nz hr) fun _ _=>.ok) (.ite ?_ (.ite (paren_nz hr) (.bnd name_nz fun s j=>?_)))))))
 ·unfold iP;exact .ite .ok (recordFrom_nz hr _ _ _ _ _)
 unfold mH;exact .ite (.bnd (operands_nz hr) fun _ _=>.ok) (.ite (.bnd name_nz fun _ _=>.bnd (operands_nz hr) fun _ _=>.ok) .ok)
theorem prefix_nz{form i:Nat}:Nz (bS l rec form i):=by
 unfold bS
 exact .ite (.bnd (hr _ _) fun _ _=>.bnd gS fun _ _=>.bnd (hr _ _) fun _ _=>.bnd gS fun _ _=>.bnd (hr _ _) fun _ _=>.ok)
  (.ite (.bnd name_nz fun _ _=>.bnd gS fun _ _=>.bnd (hr _ _) fun _ _=>.bnd gS fun _ _=>.bnd (hr _ _) fun _ _=>.ok)
  (.ite (.bnd name_nz fun _ _=>.bnd (hr _ _) fun _ _=>.ok) (.ite (.bnd (hr _ _) fun _ _=>.ok) (.bnd (primary_nz hr) fun _ _=>.ok))))
end
theorem exp_nz:∀(f form i:Nat),Nz (bL l f form i)
 |0,form,i=>.stop R0
 |f+1,form,i=>by
  unfold bL;exact .bnd (prefix_nz fun f' i'=>exp_nz f f' i') fun r j=>.bnd (.ite (dots_nz _ _ _) .ok) fun e k=>ops_nz (fun f' i'=>exp_nz f f' i') _ _ _ _ _
theorem more_nz{i:Nat}{t:Ty}{s:bA}:Nz (lE l i t s):=by unfold lE;exact .ite (.bnd end_nz fun _ _=>.ok) (.bnd end_nz fun _ _=>.ok)
theorem typedFrom_nz{rec:Nat->PR Ty}(hr:∀i,Nz (rec i)):∀(F:Nat)(fs:List Fld)(i:Nat),Nz (dE l rec F fs i)
 |0,fs,i=>.ok
 |F+1,fs,i=>by
  unfold dE;exact .bnd (.ite room_nz .ok) fun _ _=>.bnd later_nz fun s j=>.bnd (hr _) fun t j2=>.bnd more_nz fun q j3=>.ite .ok (typedFrom_nz hr F _ _)
theorem typed_nz:∀(f i:Nat),Nz (eF l f i)
 |0,i=>.stop R0
 |f+1,i=>by
  unfold eF;exact .ite .ok (.ite .ok (.bnd gS fun _ j=>.ite .ok (typedFrom_nz (fun i=>typed_nz f i) _ _ _)))
theorem fieldsFrom_nz{most:Nat}:∀(F:Nat)(fs:List Fld)(i:Nat),Nz (cK l most F fs i)
 |0,fs,i=>.ok
 |F+1,fs,i=>by
  unfold cK;exact .bnd (.ite room_nz .ok) fun _ _=>.bnd fresh_nz fun s j=>.bnd (typed_nz _ _) fun t j2=>.bnd more_nz fun q j3=>.ite .ok (fieldsFrom_nz F _ _)
theorem fields_nz{most i:Nat}:Nz (gK l most i):=by unfold gK;exact .bnd gS fun _ j=>.ite .ok (fieldsFrom_nz _ _ _)
theorem whole_nz{i:Nat}{s:bA}:Nz (iM l i s):=by unfold iM;exact .bnd (exp_nz _ _ _) fun _ _=>.bnd end_nz fun _ _=>.ok
theorem wholesFrom_nz{s:bA}:∀(n:Nat)(out:List Xp)(i:Nat),Nz (dR l s n out i)
 |0,out,i=>by unfold dR;exact .bnd whole_nz fun _ _=>.ok
 |n+1,out,i=>by unfold dR;exact .bnd whole_nz fun _ _=>wholesFrom_nz n _ _
theorem wholes_nz{n i:Nat}{s:bA}:Nz (fL l n i s):=by
 cases n with
 |zero=>unfold fL;exact .bnd gS fun _ _=>.ok
 |succ n=>unfold fL;exact wholesFrom_nz _ _ _
theorem bang_nz{i:Nat}{f:Bool}:Nz (lC l i f):=by unfold lC;exact .ite (.bnd end_nz fun _ _=>.ite .ok (.stop R0)) .ok
theorem function_nz{i:Nat}{k:bA->Bool}:Nz (gW l i k):=by
 unfold gW;exact .bnd gS fun _ _=>.bnd fresh_nz fun _ _=>.bnd fields_nz fun _ _=>.bnd (typed_nz _ _) fun _ _=>.bnd bang_nz fun _ _=>.bnd end_nz fun _ _=>.bnd whole_nz fun _ _=>.ok
theorem uses_nz:∀(F:Nat)(out:List bA)(i:Nat),Nz (eM l F out i)
 |0,out,i=>.ok
 |F+1,out,i=>by unfold eM;exact .ite (.bnd room_nz fun _ _=>.bnd fresh_nz fun _ _=>.bnd gS fun _ _=>uses_nz F _ _) .ok
theorem vars_nz:∀(F:Nat)(vs:List Fld)(es:List Xp)(i:Nat),Nz (eV l F vs es i)
 |0,vs,es,i=>.ok
 |F+1,vs,es,i=>by unfold eV;exact .ite (.bnd room_nz fun _ _=>.bnd fresh_nz fun _ _=>.bnd (typed_nz _ _) fun _ _=>.bnd end_nz fun _ _=>.bnd whole_nz fun _ _=>vars_nz F _ _ _) .ok
theorem funcs_nz:∀(F:Nat)(fs:List Fnc)(i:Nat),Nz (dQ l F fs i)
 |0,fs,i=>.ok
 |F+1,fs,i=>by unfold dQ;exact .ite (.bnd room_nz fun _ _=>.bnd function_nz fun _ _=>funcs_nz F _ _) .ok
theorem move_nz{n i:Nat}:Nz (oY l n i):=by unfold oY;exact .ite (.bnd fields_nz fun _ _=>.bnd gS fun _ _=>.bnd wholes_nz fun _ _=>.bnd wholes_nz fun _ _=>.ok) .ok
theorem module_nz:Nz (fD l):=by
 unfold fD;exact .bnd gS fun _ _=>.bnd name_nz fun _ _=>.bnd gS fun _ _=>.bnd (uses_nz _ _ _) fun _ _=>.bnd (vars_nz _ _ _ _) fun _ _=>.bnd (funcs_nz _ _ _) fun _ _=>.bnd move_nz fun _ _=>.ite .ok (.stop R0)
end
theorem lexFrom_nz{s:bA}:∀(F i:Nat)(out:List Tok)(x:Int×Int),eK s F i out=.error x->x.2≠0
 |0,i,out,x,h=>by unfold eK at h;cases h
 |F+1,i,out,x,h=>by
  unfold eK at h;split at h
  ·cases h
  split at h
  ·rename_i e he;cases h;exact nextTok_err he
  exact lexFrom_nz F _ _ x h
theorem lexL_nz{s:bA}{x:Int×Int}(h:lX s=.error x):x.2≠0:=by
 unfold lX at h;split at h
 ·cases h;decide
 exact lexFrom_nz _ _ _ x h
end Go.Proofs.YtiionicikdnnpaaGreatDoor
namespace Go.Proofs.YtiionicikdnnpaaGreatDoor
open Go.RowKit
section
variable {P:Program}
theorem run_append_at_string(w:World)(base:Nat)(t u ty e:TypeId)(i:TypeInfo)(ht:P.underlying t=some (.slice e))(hu:P.underlying u=some .string)(hi:P.info? e=some i)(hz:i.zero=some (.int .u8 0))
  (vA:i.size=1) (DS:i.bytes=1) (v:Value) (n:Nat) (xs:List Value) (pR:w.ownsRow base e 1 v n xs) (s:bA)
  (I4:n+s.size<=maxLen) (hbytes:n+s.size<=140737488355328) (yH:base<=w.heap.size):
  ∃v' w',(Builtin.append_ #[t,u] ty #[v,.string s]).run P w=.ok v' w'/\w'.ownsRow base e 1 v' (n+s.size) (xs++Lib.strCells s)/\w.grownBy w' v.ownBlock/\(v'.ownBlock=v.ownBlock\/v'.ownBlock=some w.heap.size):=by
 obtain⟨v',w',hr,h2,h3,h4⟩:=Lib.run_append_own_string (P:=P) w base t u ty e i ht hu hi hz vA DS v n xs pR s I4 hbytes yH;refine⟨v',w',hr,h2,h3,?_⟩;rcases pR.2 with⟨rfl,rfl⟩|⟨g,cap,cur,rfl,hbg,hg,hnc,hcm,vB,K6⟩
 ·have hx:xs=[]:=List.eq_nil_of_length_eq_zero (by simpa using pR.1);subst hx;obtain⟨v2,w2,yV,k2,-,k4⟩:=Lib.run_append_own_string (P:=P) w w.heap.size t u ty e i ht hu hi hz vA DS (.slice none 0 0) 0 [] (World.ownsRow_nil w _ e 1) s I4 hbytes (Nat.le_refl _);rw[hr] at yV;cases yV;by_cases hm:s.size=0
  ·have hr0:v'=.slice none 0 0:=h4.2 ⟨rfl,hm⟩;subst hr0;exact .inl rfl
  have hr3:=run_append_nil_string (P:=P) w t u ty e i (.int .u8 0) ht hu hi hz s RY (by simp only[maxLen] at I4;omega) (by rw[DS];omega);rw[hr] at hr3;cases hr3;exact .inr rfl
 by_cases uE:n+s.size<=cap
 ·have hcs':cur.size=cap:=by simpa using vB
  have yV:=Lib.run_append_room_string (P:=P) w t u ty e i ht hu hi vA g n cap cur hg s uE RY;rw[hr] at yV;cases yV;exact .inl rfl
 have holds:∀j u,xs[j]? =some u->w.cell? ((⟨g,0,none⟩:Addr).add j)=some u:=pR.cells (g:=g) rfl;have yV:=Lib.run_append_grow_string (P:=P) w t u ty e i (.int .u8 0) ht hu hi hz ⟨g,0,none⟩ n cap xs (by rw[vA];simpa using pR.1) holds s RY (by simp only[maxLen] at I4;omega) (by rw[DS];exact growslice_fits RY RY);rw[hr] at yV;cases yV;exact .inr rfl
theorem oE{w:World}{ops:Array Oper}{rest:List Oper}{o:Oper}{a:Act}{Q:Exit->Act->World->Prop}(hgd:o.guard=none)(sl x:Operand)(t u:TypeId)
  (ho:o.op=.call {callee:=.builtin .append,args:=#[sl,x],argTypes:=#[t,u]})
  (base:Nat) (e:TypeId) (i:TypeInfo) (ht:P.underlying t=some (.slice e)) (hu:P.underlying u=some .string) (hi:P.info? e=some i) (hz:i.zero=some (.int .u8 0))
  (vA:i.size=1) (DS:i.bytes=1)
  (v:Value) (n:Nat) (xs:List Value) (hs:a.eval sl=v) (pR:w.ownsRow base e 1 v n xs) (s:bA) (hx:a.eval x=.string s)
  (I4:n+s.size<=maxLen) (hbytes:n+s.size<=140737488355328) (yH:base<=w.heap.size)
  (h:∀v' w',w'.ownsRow base e 1 v' (n+s.size) (xs++Lib.strCells s)->w.grownBy w' v.ownBlock->(v'.ownBlock=v.ownBlock\/v'.ownBlock=some w.heap.size)->wpList P ops Q rest (a.put o.dst v') w'):wpList P ops Q (o::rest) a w:=by
 refine wpList_plain hgd fun K hK=>?_;obtain⟨v',w',hr,h2,h3,h4⟩:=run_append_at_string (P:=P) w base t u o.type e i ht hu hi hz vA DS v n xs pR s I4 hbytes yH;unfold Oper.wp execOp;simp only[ho,resolve,invoke,builtin,Sem.run_bind,Sem.run_pure,Result.andThen_ok,List.map_toArray,List.map_cons,List.map_nil,hs,hx,hr];exact hK _ _ (h v' w' h2 h3 h4)
end
theorem own_val{w:World}{B n:Nat}{e:TypeId}{k:Nat}{v:Value}{xs:List Value}(h:w.ownsRow B e k v n xs):∃a c,v=.slice a n c:=by
 rcases h.2 with⟨rfl,rfl⟩|⟨g,cap,cur,rfl,-⟩
 ·exact⟨none,0,rfl⟩
 exact⟨_,_,rfl⟩
theorem wrSize:(Tryz.prog.info? 102).map (·.size)=some 3:=RZ
theorem wrLies:liesAt Tryz.prog Tryz.prog.depth 102 (3 / Tryz.prog.cellsOf 102) 0 100 1=true:=RZ
theorem bytInfo:(Tryz.prog.info? 5).map (fun i=>(i.zero,i.size,i.bytes))=some (some (.int .u8 0),1,1):=RZ
theorem bldSz:(Tryz.prog.info? 100).map (·.size)=some 2:=RZ
abbrev bv(l:List UInt8):List Value:=l.map fun b=>Value.int .u8 b.toNat
structure Wr (B wb:Nat) (bl:List UInt8) (ins:Bool) (v:Value) (w:World):Prop where
 box:∃p,(p=Value.pointer none\/p=Value.pointer (some ⟨wb,0,none⟩))/\w.heap[wb]? =some (.cells #[p,v,.bool ins] 102)
 own:w.ownsRow B 5 1 v bl.length (bv bl)
 hcb:wb<B
 h11:11<=wb
 big:B<=w.heap.size
 glob:iF w
section
variable {B wb:Nat} {bl:List UInt8} {ins:Bool} {v v':Value} {w w':World}
theorem Wr.lt(h:Wr B wb bl ins v w):wb<w.heap.size:=by have:=h.hcb;have:=h.big;omega
theorem Wr.owns(h:Wr B wb bl ins v w):∀b,v.ownBlock=some b->B<=b/\b<w.heap.size:=h.own.lt
theorem Wr.n11(h:Wr B wb bl ins v w):∀k,k<11->¬inC wb v k:=fun k hk hs=>by
 have h1:=h.h11;have h2:=h.hcb;rcases hs with hs|hs
 ·omega
 have:=(h.owns k hs).1;omega
theorem owns_later{T:TypeId}{n:Nat}{xs:List Value}(h:w.ownsRow B T 1 v n xs)(hb:Below w.heap.size w w'):w'.ownsRow B T 1 v n xs:=by
 obtain⟨h1,h2⟩:=h;refine⟨h1,h2.imp id ?_⟩;rintro⟨g,cap,cur,hv,hg,JU,r⟩;exact⟨g,cap,cur,hv,hg,aC hb JU,r⟩
theorem Wr.later(h:Wr B wb bl ins v w)(hb:Below w.heap.size w w'):Wr B wb bl ins v w':=by
 obtain⟨p,hp,uD⟩:=h.box;exact⟨⟨p,hp,aC hb uD⟩,owns_later h.own hb,h.hcb,h.h11,Nat.le_trans h.big hb.size,h.glob.later hb⟩
theorem Wr.val(h:Wr B wb bl ins v w):∃a c,v=.slice a bl.length c:=by
 rcases h.own.2 with⟨hv,h0⟩|⟨g,cap,cur,hv,-⟩
 ·exact⟨none,0,by rw[h0];exact hv⟩
 exact⟨_,_,hv⟩
theorem Wr.new{b:Nat}(h:Wr B wb bl ins v w)(hb:w.heap.size<=b):dL wb v b:=⟨by have:=h.lt;omega,fun e=>by have:=(h.owns b e).2;omega⟩
theorem owns_set{T:TypeId}{n j:Nat}{xs:List Value}{u:Value}(h:w.ownsRow B T 1 v n xs)(hB:wb<B):(w.setCell ⟨wb,j,none⟩ u).ownsRow B T 1 v n xs:=by
 obtain⟨h1,h2⟩:=h;refine⟨h1,h2.imp id ?_⟩;rintro⟨g,cap,cur,hv,hg,JU,r⟩;exact⟨g,cap,cur,hv,hg,(Off.setCell (S:=fun b=>b=wb) w rfl).heap RY JU,r⟩
theorem Wr.used(h:Wr B wb bl ins v w):Wr B wb bl ins v (w.setCell ⟨wb,0,none⟩ (.pointer (some ⟨wb,0,none⟩)))/\Ext wb v w v (w.setCell ⟨wb,0,none⟩ (.pointer (some ⟨wb,0,none⟩))):=by
 obtain⟨p,hp,uD⟩:=h.box;have ho:Off (inC wb v) w (w.setCell ⟨wb,0,none⟩ (.pointer (some ⟨wb,0,none⟩))):=Off.setCell w (.inl rfl);exact⟨⟨⟨_,.inr rfl,aU uD _⟩,owns_set h.own h.hcb,h.hcb,h.h11,by simpa using h.big,h.glob.off ho h.n11⟩,ho,fun _ h=>.inl h⟩
theorem Wr.flag(h:Wr B wb bl ins v w)(q:Bool):Wr B wb bl q v (w.setCell ⟨wb,2,none⟩ (.bool q))/\Ext wb v w v (w.setCell ⟨wb,2,none⟩ (.bool q)):=by
 obtain⟨p,hp,uD⟩:=h.box;have ho:Off (inC wb v) w (w.setCell ⟨wb,2,none⟩ (.bool q)):=Off.setCell w (.inl rfl);exact⟨⟨⟨p,hp,aU uD _⟩,owns_set h.own h.hcb,h.hcb,h.h11,by simpa using h.big,h.glob.off ho h.n11⟩,ho,fun _ h=>.inl h⟩
theorem Wr.push{bl2:List UInt8}{w2 w3:World}(h:Wr B wb bl ins v w)(hb:Below w.heap.size w w2)(pR:w3.ownsRow B 5 1 v' (bl.length+bl2.length) (bv bl++bv bl2))(pM:w2.grownBy w3 v.ownBlock)(qV:v'.ownBlock=v.ownBlock\/v'.ownBlock=some w2.heap.size):
  (∃p,w3.heap[wb]? =some (.cells #[p,v,.bool ins] 102))/\Wr B wb (bl++bl2) ins v' (w3.setCell ⟨wb,1,none⟩ v')/\Ext wb v w v' (w3.setCell ⟨wb,1,none⟩ v'):=by
 have hcb:=h.hcb;have qK:Off (fun b=>v.ownBlock=some b) w2 w3:=⟨pM.os,pM.tape,pM.output,pM.size,fun k hk hn=>pM.block k hk (fun e=>hn e.symm)⟩;have pQ:¬v.ownBlock=some wb:=fun e=>by have:=(h.owns wb e).1;omega
 obtain⟨p,hp,uD⟩:=(h.later hb).box;have xH:=qK.heap pQ uD
 have hx:Ext wb v w v' (w3.setCell ⟨wb,1,none⟩ v'):=by
  refine⟨(Ba hb).trans ((qK.mono fun b hb=>.inr hb).trans (Off.setCell (S:=inC wb v) w3 (.inl rfl))),fun b pN=>?_⟩;rcases qV with h1|h1
  ·exact .inl (h1▸pN)
  rw[h1] at pN;cases pN;exact .inr hb.size
 refine⟨⟨p,xH⟩,⟨⟨p,hp,?_⟩,?_,hcb,h.h11,?_,h.glob.off hx.off h.n11⟩,hx⟩
 ·rw[aU xH];rfl
 ·rw[List.length_append,bv,List.map_append];exact owns_set pR hcb
 have h1:=hx.size;have h2:=h.big;omega
end
def WrPost(B wb:Nat)(v:Value)(w:World)(r:Value)(bl:List UInt8)(ins:Bool)(e:Ending)(w':World):Prop:=∃v',e=.returned r/\Wr B wb bl ins v' w'/\Ext wb v w v' w'
theorem wrCheck{B wb:Nat}{bl:List UInt8}{ins:Bool}{v:Value}{w:World}(h:Wr B wb bl ins v w):
  Calls Tryz.prog 195 #[.pointer (some ⟨wb,0,none⟩)] w (WrPost B wb v w (.tuple #[]) bl ins):=by
 obtain⟨p,hp,uD⟩:=h.box;have HU:=zh h.used;have HH:=zh h;obtain⟨⟨h0,-⟩,f0,-⟩:=bx3 uD;rcases hp with rfl|rfl
 ·have hsh:w.shape? wb=some (102,3):=by simp[World.shape?,uD]
  clear h uD;obtain⟨j,hj,hjs⟩:=Option.map_eq_some_iff.1 bldSz;go_enter Tryz.func195,Tryz.ntmps195
  go_wp2
  rw[Lib.run_to_unsafe w ⟨wb,0,none⟩ Tryz.underlying97 Tryz.underlying237 hj (by rw[hjs];decide) hsh (Nat.zero_lt_succ 2)];simp only[Result.andThen];rw[Oper.upon_value]
  go_wp2
  rw[run_callFunc_extern Tryz.func228 RZ RZ RZ (e:=Extern.AbiNoEscape.same) RZ];rw[Lib.run_noEscape];simp only[Result.andThen];rw[Oper.upon_value]
  go_wp2
  rw[Lib.run_from_unsafe w ⟨wb,0,none⟩ Tryz.underlying237 Tryz.underlying97 hj hsh wrLies];simp only[Result.andThen];rw[Oper.upon_value]
  go_wp2
  go_end0;exact⟨_,rfl,HU.out.1,HU.out.2⟩
 clear h uD HU;obtain⟨j,hj,_⟩:=Option.map_eq_some_iff.1 bldSz;go_enter Tryz.func195,Tryz.ntmps195
 go_wp2
 rw[Lib.run_neq_ptr_same w _ Tryz.underlying97 hj]
 go_wp2
 go_end0;exact⟨_,rfl,HH.out,Ext.refl _ _ _⟩
theorem wrByte{B wb:Nat}{bl:List UInt8}{ins:Bool}{v:Value}{w:World}(c:UInt8)(cc:Int)(I0:cc=(c.toNat:Int))(h:Wr B wb bl ins v w)(qG:bl.length+1<=140737488355328):
  Calls Tryz.prog 149 #[.pointer (some ⟨wb,0,none⟩),.int .u8 cc] w (WrPost B wb v w .nilIface (bl++[c]) ins):=by
 obtain⟨i0,hi,xN,sG,rU⟩:=info_parts bytInfo;have HC:=zh (wrCheck h);have HV:Hid (bv [c]=[.int .u8 cc]):=zh (by rw[I0];rfl);clear h I0;go_enter Tryz.func149,Tryz.ntmps149;go_wp2_with(go_at_call 195;refine HC.out.mono ?_);rintro e w1 ⟨v1,rfl,h1,tK⟩;have sX:=zh tK;have HH1:=zh h1;obtain⟨p1,FG,BD⟩:=h1.box;obtain⟨⟨b0,b1,b2⟩,f0,f1,f2⟩:=bx3 BD;obtain⟨a1,c1,rfl⟩:=h1.val;have hbg1:=h1.big;clear BD FG h1 tK;have pZ:=zh (aB w1 (.cells #[.int .u8 cc] 5));go_wp2_with(at_builtin;refine wpList_append_own_at _ rfl _ _ 98 rfl B 5 i0 (.int .u8 0) 1 1 Tryz.underlying98 hi xN sG rU rfl R0 _ _ _ rfl (HH1.out.later pZ.out).own ⟨w1.heap.size,0,none⟩ 1 1 [.int .u8 cc] rfl rfl ?c1 ?c2 ?c3 ?c4 ?c5 ?_)
 case c1=>
  intro j u hj
  match j,hj with
  |0,hj=>simp at hj;subst hj;simp[Addr.add]
 case c2=>intro u hu;simp at hu;subst hu;rfl
 case c3=>unfold maxLen;omega
 case c4=>omega
 case c5=>simp;omega
 intro v' w2 uS pM _ qV;have hq:=HH1.out.push (bl2:=[c]) pZ.out (by rw[HV.out];exact uS) pM VF;obtain⟨⟨p3,xH⟩,q1,q2⟩:=hq;obtain⟨⟨d0,d1,d2⟩,g0,g1,g2⟩:=bx3 xH;have Q1:=zh q1;have Q2:=zh (sX.out.trans q2);obtain⟨a3,c3,rfl⟩:=own_val uS;clear q1 q2 uS pM qV xH b0 b1 b2 f0 f1 f2
 go_wp2
 go_ret;exact⟨_,rfl,Q1.out,Q2.out⟩
theorem wrString{B wb:Nat}{bl:List UInt8}{ins:Bool}{v:Value}{w:World}(s:bA)(h:Wr B wb bl ins v w)(qG:bl.length+s.size<=140737488355328):
  Calls Tryz.prog 150 #[.pointer (some ⟨wb,0,none⟩),.string s] w (WrPost B wb v w (.tuple #[.int .i64 s.size,.nilIface]) (bl++s.data.toList) ins):=by
 obtain⟨i0,hi,xN,sG,rU⟩:=info_parts bytInfo;have HC:=zh (wrCheck h);have HL:Hid (s.data.toList.length=s.size):=zh R2;clear h;go_enter Tryz.func150,Tryz.ntmps150;go_wp2_with(go_at_call 195;refine HC.out.mono ?_);rintro e w1 ⟨v1,rfl,h1,tK⟩;have sX:=zh tK;have HH1:=zh h1;obtain⟨p1,FG,BD⟩:=h1.box;obtain⟨⟨b0,b1,b2⟩,f0,f1,f2⟩:=bx3 BD;obtain⟨a1,c1,rfl⟩:=h1.val;have hbg1:=h1.big;clear BD FG h1 tK;go_wp2_with(at_builtin;refine oE rfl _ _ 98 9 rfl B 5 i0 Tryz.underlying98 Tryz.underlying9 hi xN sG rU _ _ _ rfl HH1.out.own s rfl ?c3 ?c4 ?c5 ?_);case c3=>unfold maxLen;omega
 case c4=>omega
 case c5=>omega
 intro v' w2 uS pM qV;have hq:=HH1.out.push (bl2:=s.data.toList) (Below.refl _ _) (by rw[HL.out];exact uS) pM qV;obtain⟨⟨p3,xH⟩,q1,q2⟩:=hq;obtain⟨⟨d0,d1,d2⟩,g0,g1,g2⟩:=bx3 xH;have Q1:=zh q1;have Q2:=zh (sX.out.trans q2);obtain⟨a3,c3,rfl⟩:=own_val uS;clear q1 q2 uS pM qV xH b0 b1 b2 f0 f1 f2
 go_wp2
 go_ret2;exact⟨_,rfl,Q1.out,Q2.out⟩
end Go.Proofs.YtiionicikdnnpaaGreatDoor
namespace Go.Proofs.YtiionicikdnnpaaGreatDoor
open Go.RowKit
theorem QI{p:Prop}(h:p:=by
 go_roundw;case rel=>exact⟨q+1,v4,RY,SK,zh (by rw[HT.out];have h:=(IO.out.flag true).1;simpa[WSt.put,emit_one,insL,List.append_assoc] using h),zh (tN.out.trans (IO.out.flag true).2)⟩
 case measure=>simp[intOf];omega):p:=h
theorem QY{p:Prop}(h:p:=by
 go_wp2_with fail;go_end0
 exact⟨v1,rfl,by have h:=HC.out;rw[HT.out] at h;exact h,HE.out⟩):p:=h
abbrev WSt:=List UInt8×Bool
def WSt.put(st:WSt)(ts:List bA):WSt:=(st.1++jJ st.2 ts,insL st.2 ts)
def WSt.line(st:WSt):WSt:=((st.put [dB]).1++[10],false)
theorem bW(st:WSt)(a b:List bA):(st.put a).put b=st.put (a++b):=by
 unfold WSt.put;simp only[emit_app,ins_app,List.append_assoc]
theorem jI(st:WSt):st.put []=st:=by
 unfold WSt.put;obtain⟨l,i⟩:=st;simp[jJ,insL]
def dO(st:WSt)(ts:List bA):Prop:=st.1.length+tsz ts<=140737488355328
theorem dO.app{st:WSt}{a b:List bA}(h:dO st (a++b)):dO st a/\dO (st.put a) b:=by
 unfold dO at *;rw[eW] at h;have:=emit_size st.2 a;refine⟨RY,?_⟩;show(st.1++jJ st.2 a).length+_<=_;rw[List.length_append];omega
theorem dO.cons{st:WSt}{t:bA}{b:List bA}(h:dO st (t::b)):dO st [t]/\dO (st.put [t]) b:=dO.app (a:=[t]) h
abbrev WrS(B wb:Nat)(st:WSt)(v:Value)(w:World):Prop:=Wr B wb st.1 st.2 v w
def WrP(B wb:Nat)(v:Value)(w:World)(r:Value)(st:WSt)(e:Ending)(w':World):Prop:=∃v',e=.returned r/\WrS B wb st v' w'/\Ext wb v w v' w'
theorem bv_len(l:List UInt8):(bv l).length=l.length:=R2
theorem emit_one(ins:Bool)(t:bA):jJ ins [t]=(if ins then[32] else[])++t.data.toList:=by simp[jJ]
theorem tsz_mem{t:bA}:∀{l:List bA},t∈l->t.size+1<=tsz l
 |[],h=>TY
 |x::r,h=>by
  rw[aV];rcases List.mem_cons.1 h with rfl|h
  ·omega
  have:=tsz_mem h;omega
theorem take_put{st:WSt}{ts:List bA}{q:Nat}{x:bA}(hx:ts[q]? =some x):st.put (ts.take (q+1))=(st.put (ts.take q)).put [x]:=by
 rw[bW,List.take_add_one,hx];rfl
theorem wput_any{B wb:Nat}{st:WSt}{v vs:Value}{ts:List bA}{w:World}(h:WrS B wb st v w)(hr:aO 1 iD (dL wb v) w vs ts)(hf:dO st ts):
  Calls Tryz.prog 67 #[.pointer (some ⟨wb,0,none⟩),vs] w (WrP B wb v w (.tuple #[]) (st.put ts)):=by
 obtain⟨a,c,rfl,hl1,xC,yF⟩:=hr.at;have HA:=zh yF;have HH:=zh h;have HF:=zh hf;clear yF hr h hf;go_enter Tryz.func67,Tryz.ntmps67;go_wp2_with fail;go_loopw [8] (fun iv wr=>∃(q:Nat)(v':Value),q<=ts.length/\iv=.int .i64 (q:Int)/\Hid (WrS B wb (st.put (ts.take q)) v' wr)/\Hid (Ext wb v w v' wr)) (fun iv _=>ts.length-(intOf iv).toNat)
 case atStart=>exact⟨0,v,Nat.zero_le _,rfl,zh (by rw[List.take_zero,jI];exact HH.out),zh (Ext.refl _ _ _)⟩
 case round=>
  obtain⟨q,v1,hq,rfl,HC,HE⟩:=hrel;rename World=>wr
  by_cases qA:q<ts.length
  ·obtain⟨x,hx,tM⟩:=getElem?_of_lt qA;obtain⟨b,o,rfl,AG,cs,⟨rfl,IW⟩,-,hj⟩:=HA.out q x hx;have IY:¬inC wb v b:=fun e=>e.elim AG.1 AG.2;(have p0:wr.cell? ⟨b,o+q,none⟩=some (.string x):=by have h:=HE.out.off.cell IY (hj 0 _ rfl);simpa using h);have HT:=zh (take_put (st:=st) hx)
   have rC:dO (st.put (ts.take q)) [x]:=by
    have h1:=HF.out;rw[<-List.take_append_drop q ts,List.drop_eq_getElem_cons qA] at h1;have e:ts[q]=x:=Option.some.inj (by rw[<-List.getElem?_eq_getElem qA,hx]);rw[e] at h1;exact h1.app.2.cons.1
   generalize st.put (ts.take q)=s1 at HC HT rC;unfold dO at rC;rw[aV] at rC;simp only[tsz] at rC;have OL:=zh rC;obtain⟨bl,ins⟩:=s1;obtain⟨pp,hpp,uD⟩:=HC.out.box;obtain⟨⟨b0,b1,b2⟩,f0,f1,f2⟩:=bx3 uD;clear uD hpp hj AG hx tM rC IW
   cases ins with
   |true=>
    have qL:=zh (wrByte 32 32 rfl HC.out (by have h9:=OL.out;show bl.length+_<=_;simp only at h9;omega));clear HC;go_wp2_with(first|(go_at_call 150;refine(wrString x h3 (by have h9:=OL.out;show(bl++[32]).length+_<=_;rw[List.length_append];simp only[List.length_singleton] at h9 ⊢;omega)).mono ?_;rintro e w4 ⟨v4,rfl,h4,qX⟩;have tN:=zh (tE.out.trans qX);have IO:=zh h4;obtain⟨pp4,FF,xG⟩:=h4.box;obtain⟨⟨d0,d1,d2⟩,g0,g1,g2⟩:=bx3 xG;clear xG FF h4 qX)|(go_at_call 149;refine qL.out.mono ?_;rintro e w3 ⟨v3,rfl,h3,qF⟩;have tE:=zh (HE.out.trans qF);clear qF));exact QI
   |false=>
    have qL:=zh (wrString x HC.out (by have h9:=OL.out;show bl.length+_<=_;simp only at h9;omega));clear HC;go_wp2_with(go_at_call 150;refine qL.out.mono ?_;rintro e w4 ⟨v4,rfl,h4,qX⟩;have tN:=zh (HE.out.trans qX);have IO:=zh h4;obtain⟨pp4,FF,xG⟩:=h4.box;obtain⟨⟨d0,d1,d2⟩,g0,g1,g2⟩:=bx3 xG;clear xG FF h4 qX);exact QI
  have tT:q=ts.length:=RY;have HT:Hid (st.put (ts.take q)=st.put ts):=zh (by rw[tT,List.take_length]);exact QY
theorem row_lit{N:Nat->Prop}{w:World}{b:Nat}{vs:Array Value}{ts:List bA}(hb:w.heap[b]? =some (.cells vs 9))(he:vs.toList=ts.map Value.string)(hN:N b)(hs:∀t∈ts,t.size<=140737488355328)(hl:ts.length<=1000):aO 1 iD N w (.slice (some ⟨b,0,none⟩) ts.length ts.length) ts:=by
 have hv:vs=(ts.map fun t=>[Value.string t]).flatten.toArray:=by
  apply Array.ext';rw[he];clear he hs hl
  induction ts with
  |nil=>rfl
  |cons t r ih=>simp[ih]
 rw[hv] at hb;refine aO.of_block (css:=ts.map fun t=>[Value.string t]) hb hN R2 (fun c hc=>?_) (fun i x c hx hc=>?_) rfl RY
 ·obtain⟨t,-,rfl⟩:=List.mem_map.1 hc;rfl
 rw[List.getElem?_map,hx] at hc;cases hc;exact⟨rfl,hs x (List.mem_of_getElem? hx)⟩
theorem dO.each{st:WSt}{ts:List bA}(h:dO st ts):∀t∈ts,t.size<=140737488355328:=fun t ht=>by
 have:=tsz_mem ht;unfold dO at h;omega
theorem wput_lit{B wb:Nat}{st:WSt}{v:Value}{w w1:World}{b:Nat}(vs:Array Value)(ts:List bA)(h:WrS B wb st v w)(hb:Below w.heap.size w w1)(qQ:w1.heap[b]? =some (.cells vs 9))(LF:w.heap.size<=b)(he:vs.toList=ts.map Value.string)(hl:ts.length<=1000)(hf:dO st ts):
  Calls Tryz.prog 67 #[.pointer (some ⟨wb,0,none⟩),.slice (some ⟨b,0,none⟩) ts.length ts.length] w1 (WrP B wb v w (.tuple #[]) (st.put ts)):=by
 refine(wput_any (h.later hb) (row_lit qQ he (h.new LF) hf.each hl) hf).mono ?_;rintro e w' ⟨v',he,h',hx⟩;exact⟨v',he,h',(Ext.below wb v hb).trans hx⟩
theorem fI{B wb:Nat}{st:WSt}{v:Value}{w:World}{k:Nat}(a:bA)(h:WrS B wb st v w)(hf:dO st [a])(hk:k=w.heap.size:=by first|rfl|simp):
  Calls Tryz.prog 67 #[.pointer (some ⟨wb,0,none⟩),.slice (some ⟨k,0,none⟩) 1 1] (w.alloc (nF a)) (WrP B wb v w (.tuple #[]) (st.put [a])):=by
 subst hk;exact wput_lit #[.string a] [a] h (aB _ _) (bY _ _) (Nat.le_refl _) rfl R2 hf
theorem wput2{B wb:Nat}{st:WSt}{v:Value}{w:World}{k:Nat}(a b:bA)(h:WrS B wb st v w)(hf:dO st [a,b])(hk:k=w.heap.size:=by first|rfl|simp):
  Calls Tryz.prog 67 #[.pointer (some ⟨wb,0,none⟩),.slice (some ⟨k,0,none⟩) 2 2] (w.alloc (.cells #[.string a,.string b] 9)) (WrP B wb v w (.tuple #[]) (st.put [a,b])):=by
 subst hk;exact wput_lit #[.string a,.string b] [a,b] h (aB _ _) (bY _ _) (Nat.le_refl _) rfl R2 hf
theorem wput3{B wb:Nat}{st:WSt}{v:Value}{w:World}{k:Nat}(a b c:bA)(h:WrS B wb st v w)(hf:dO st [a,b,c])(hk:k=w.heap.size:=by first|rfl|simp):
  Calls Tryz.prog 67 #[.pointer (some ⟨wb,0,none⟩),.slice (some ⟨k,0,none⟩) 3 3] (w.alloc (.cells #[.string a,.string b,.string c] 9)) (WrP B wb v w (.tuple #[]) (st.put [a,b,c])):=by
 subst hk;exact wput_lit #[.string a,.string b,.string c] [a,b,c] h (aB _ _) (bY _ _) (Nat.le_refl _) rfl R2 hf
theorem oF{B wb:Nat}{st:WSt}{v:Value}{w:World}(h:WrS B wb st v w)(hf:st.1.length+3<=140737488355328):
  Calls Tryz.prog 68 #[.pointer (some ⟨wb,0,none⟩)] w (WrP B wb v w (.tuple #[]) st.line):=by
 have HP:=zh (fI dB h (by unfold dO;have:tsz [dB]=2:=rfl;omega))
 have hl:(st.put [dB]).1.length<=st.1.length+2:=by
  have:=emit_size st.2 [dB];have e:tsz [dB]=2:=rfl;show(st.1++jJ st.2 [dB]).length<=_;rw[List.length_append];omega
 have xC:(st.put [dB]).1.length+1<=140737488355328:=RY;have HL:Hid (st.line=((st.put [dB]).1++[10],false)):=zh rfl;generalize st.put [dB]=s1 at *;generalize st.line=s2 at *;clear h hf hl;have HL2:=zh xC;clear xC;go_enter Tryz.func68,Tryz.ntmps68;go_wp2_with(first|(go_at_call 149;refine(wrByte 10 10 rfl h3 HL2.out).mono ?_;rintro e w4 ⟨v4,rfl,h4,qX⟩;have tN:=zh (tE.out.trans qX);have IO:=zh h4;obtain⟨pp4,FF,xG⟩:=h4.box;obtain⟨⟨d0,d1,d2⟩,g0,g1,g2⟩:=bx3 xG;clear xG FF h4 qX)|(go_at_call 67;refine HP.out.mono ?_;rintro e w3 ⟨v3,rfl,h3,qF⟩;have tE:=zh qF;clear qF));go_end0;exact⟨v4,rfl,by rw[HL.out];exact(IO.out.flag false).1,tN.out.trans (IO.out.flag false).2⟩
theorem PO{p:Prop}(h:p:=by
 cases sr with
 |true=>
  have wM:=zh (jT HX.out HY.out HT.out (yN.out.1 rfl));go_wp2_with fail;go_roundw;case rel=>exact⟨q+1,RY,SK,sM,wM⟩
  case measure=>simp[intOf];omega
 |false=>
  have HE:Hid (eqL a b=false):=zh (dN (nP HX.out HY.out (fun e=>by have:=yN.out.2 e;cases this)));go_wp2_with fail;go_ret
  exact⟨aE UP,sM.out⟩):p:=h
theorem PS{p:Prop}(h:p:=by
 have tT:q=a.length:=RY;have HE:Hid (eqL a b=true):=zh (gY (lG HL.out (by have h:=HT.out;rw[tT] at h;exact h)));go_wp2_with fail;go_ret
 exact⟨aE UP,HW.out⟩):p:=h
theorem P8{p:Prop}(h:p:=by
 go_wp2_with fail;go_ret
 exact⟨aE (by rw[HR.out];simp[h1]),pP.out⟩):p:=h
theorem QC{p:Prop}(h:p:=by
 go_wp2_with fail;go_ret
 exact⟨aE UP,Below.refl _ _⟩):p:=h
theorem QU{p:Prop}(h:p:=by
 go_wp2_with fail;go_ret
 exact⟨aE (by rw[HR.out];simp[h2]),pP.out⟩):p:=h
theorem RE{p:Prop}(h:p:=by
 go_wp2_with fail;go_ret
 exact⟨aE (by rw[HR.out];simp[h3]),pP.out⟩):p:=h
theorem jT{α:Type}{a b:List α}{q:Nat}{x y:α}(hx:a[q]? =some x)(hy:b[q]? =some y)(ht:a.take q=b.take q)(he:x=y):a.take (q+1)=b.take (q+1):=by
 rw[List.take_add_one,List.take_add_one,ht,hx,hy,he]
theorem nP{α:Type}{a b:List α}{q:Nat}{x y:α}(hx:a[q]? =some x)(hy:b[q]? =some y)(he:x≠y):a≠b:=by
 intro e;rw[e,hy] at hx;exact he (Option.some.inj hx).symm
theorem lG{α:Type}{a b:List α}(hl:a.length=b.length)(ht:a.take a.length=b.take a.length):a=b:=by
 rw[List.take_length,hl,List.take_length] at ht;exact ht
noncomputable def eqL {α:Type} (a b:List α):Bool:=@decide (a=b) (Classical.propDecidable _)
theorem gY{α:Type}{a b:List α}(h:a=b):eqL a b=true:=@decide_eq_true _ (Classical.propDecidable _) h
theorem dN{α:Type}{a b:List α}(h:¬a=b):eqL a b=false:=@decide_eq_false _ (Classical.propDecidable _) h
theorem rnames_any(a b:List bA){N N':Nat->Prop}{va vb:Value}{w:World}(ha:aO 1 iD N w va a)(hb:aO 1 iD N' w vb b):
  Calls Tryz.prog 58 #[va,vb] w fun e w'=>e=.returned (.bool (eqL a b))/\Below w.heap.size w w':=by
 obtain⟨aa,ca,rfl,la1,la2,rI⟩:=ha.at;obtain⟨ab,cb,rfl,D4,L9,pP⟩:=hb.at;have HA:=zh rI;have HB:=zh pP;clear rI pP ha hb;by_cases hl:a.length=b.length
 ·have HL:=zh hl;rw[<-hl] at D4 ⊢;clear hl;go_enter Tryz.func58,Tryz.ntmps58;go_wp2_with fail;go_loopw [5] (fun iv wr=>∃q:Nat,q<=a.length/\iv=.int .i64 (q:Int)/\Hid (Below w.heap.size w wr)/\Hid (a.take q=b.take q)) (fun iv _=>a.length-(intOf iv).toNat)
  case atStart=>exact⟨0,Nat.zero_le _,rfl,zh (Below.refl _ _),zh rfl⟩
  case round=>
   obtain⟨q,hq,rfl,HW,HT⟩:=hrel;(rename World=>wr);by_cases qA:q<a.length
   ·obtain⟨x,hx,-⟩:=getElem?_of_lt qA;obtain⟨y,hy,-⟩:=getElem?_of_lt (show q<b.length by rw[<-HL.out];exact qA);have tS:(0:Int)<=(q:Int)/\(q:Int)<(a.length:Int):=RY;have HX:=zh hx;have HY:=zh hy;obtain⟨b1,o1,rfl,-,J7,⟨rfl,-⟩,-,rW⟩:=HA.out q x hx;obtain⟨b2,o2,rfl,-,cs2,⟨rfl,-⟩,-,sS⟩:=HB.out q y hy;(have cx:wr.cell? ⟨b1,o1+q,none⟩=some (.string x):=by have h:=aD HW.out (rW 0 _ rfl);simpa using h);(have cy:wr.cell? ⟨b2,o2+q,none⟩=some (.string y):=by have h:=aD HW.out (sS 0 _ rfl);simpa using h);clear rW sS hx hy;by_cases he:x=y
    ·have wM:=zh (jT HX.out HY.out HT.out he);subst he;go_wp2_with fail;(go_region);go_wp2_with fail;go_roundw;(case rel=>exact⟨q+1,RY,SK,zh HW.out.drew,wM⟩);case measure=>simp[intOf];omega
    (have pQ:(x.toList==y.toList)=false:=by rw[eE];exact decide_eq_false he);(have hne2:(x.toList != y.toList)=true:=by rw[bne,pQ];rfl);have HE:Hid (eqL a b=false):=zh (dN (nP HX.out HY.out he));clear he;go_wp2_with fail;(go_region);go_wp2_with fail;go_ret;exact⟨aE UP,HW.out.drew⟩
   exact PS
 have HE:Hid (eqL a b=false):=zh (dN (fun e=>hl (by rw[e])));have xC:((a.length:Int)==(b.length:Int))=false:=SA;go_enter Tryz.func58,Tryz.ntmps58;exact QC
def RsX(d:Nat):Prop:=∀(x y:Xp)(N N':Nat->Prop)(cx cy:List Value)(w:World),bE x<=d->bJ N w x cx->bJ N' w y cy->
 Calls Tryz.prog 16 #[.agg cx.toArray,.agg cy.toArray] w fun e w'=>e=.returned (.bool (kS x y))/\Below w.heap.size w w'
theorem rexps_of(a b:List Xp){d:Nat}(hD:RsX d)(hp:∀x∈a,bE x<=d){N N':Nat->Prop}{va vb:Value}{w:World}(ha:aO 6 bJ N w va a)(hb:aO 6 bJ N' w vb b):
  Calls Tryz.prog 57 #[va,vb] w fun e w'=>e=.returned (.bool (eqL a b))/\Below w.heap.size w w':=by
 obtain⟨aa,ca,rfl,la1,la2,rI⟩:=ha.at;obtain⟨ab,cb,rfl,D4,L9,pP⟩:=hb.at;have HA:=zh rI;have HB:=zh pP;have HD:=zh hD;have JD:=zh hp;clear hD hp;clear rI pP ha hb;by_cases hl:a.length=b.length
 ·have HL:=zh hl;rw[<-hl] at D4 ⊢;clear hl;go_enter Tryz.func57,Tryz.ntmps57;go_wp2_with fail;go_loopw [5] (fun iv wr=>∃q:Nat,q<=a.length/\iv=.int .i64 (q:Int)/\Hid (Below w.heap.size w wr)/\Hid (a.take q=b.take q)) (fun iv _=>a.length-(intOf iv).toNat)
  case atStart=>exact⟨0,Nat.zero_le _,rfl,zh (Below.refl _ _),zh rfl⟩
  case round=>
   obtain⟨q,hq,rfl,HW,HT⟩:=hrel;(rename World=>wr);by_cases qA:q<a.length
   ·obtain⟨x,hx,-⟩:=getElem?_of_lt qA;obtain⟨y,hy,-⟩:=getElem?_of_lt (show q<b.length by rw[<-HL.out];exact qA);have tS:(0:Int)<=(q:Int)/\(q:Int)<(a.length:Int):=RY;have HX:=zh hx;have HY:=zh hy;obtain⟨b1,o1,rfl,-,J7,uL,-,rW⟩:=HA.out q x hx;obtain⟨b2,o2,rfl,-,cs2,tZ,-,sS⟩:=HB.out q y hy;obtain⟨wE,n1,s1,m1,i1,j1,k1,u1,z1,t1,rfl⟩:=jB uL;obtain⟨sW,n2,s2,m2,i2,j2,k2,u2,z2,t2,rfl⟩:=jB tZ;have vO:wr.cell? ⟨b1,o1+q*6,none⟩=some (.int .i64 wE):=aD HW.out (rW 0 _ rfl);have wD:=aD HW.out (rW 1 _ rfl);have wH:=aD HW.out (rW 2 _ rfl);have xM:=aD HW.out (rW 3 _ rfl);have xL:=aD HW.out (rW 4 _ rfl);have xK:=aD HW.out (rW 5 _ rfl);have B9:wr.cell? ⟨b2,o2+q*6,none⟩=some (.int .i64 sW):=aD HW.out (sS 0 _ rfl);have CK:=aD HW.out (sS 1 _ rfl);have CJ:=aD HW.out (sS 2 _ rfl);have p23:=aD HW.out (sS 3 _ rfl);have p24:=aD HW.out (sS 4 _ rfl);have p25:=aD HW.out (sS 5 _ rfl);have BW:=zh (fun W(hb:Below wr.heap.size wr W)=>HD.out x y N N' _ _ W (JD.out x (List.mem_of_getElem? hx)) (aH _ _ _ _ _ _ (aQ.later (aA HW.out hb)) uL) (aH _ _ _ _ _ _ (aQ.later (aA HW.out hb)) tZ));have yN:=zh (iZ x y);clear rW sS hx hy uL tZ;go_wp2_with fail;refine wp_region_held_drew (S:=fun W=>Below wr.heap.size wr W) RZ (aF wr) fun hS=>?_;refine zq 0 (.slice (some ⟨b1,o1,none⟩) a.length ca) rfl ?_;refine zq 1 (.int .i64 (q:Int)) rfl ?_;refine zq 2 (.pointer (some ⟨b1,o1+q*6,none⟩)) rfl ?_;refine zt 3 (dW wE n1 s1 m1 i1 j1 k1 u1 z1 t1) rfl (fun W hW=>by have q0:=aD hW vO;have q1:=aD hW wD;have q2:=aD hW wH;have q3:=aD hW xM;have q4:=aD hW xL;have q5:=aD hW xK;go_simp) ?_;refine zq 4 (.slice (some ⟨b2,o2,none⟩) a.length cb) rfl ?_;refine zq 5 (.int .i64 (q:Int)) rfl ?_;refine zq 6 (.pointer (some ⟨b2,o2+q*6,none⟩)) rfl ?_;refine zt 7 (dW sW n2 s2 m2 i2 j2 k2 u2 z2 t2) rfl (fun W hW=>by have q0:=aD hW B9;have q1:=aD hW CK;have q2:=aD hW CJ;have q3:=aD hW p23;have q4:=aD hW p24;have q5:=aD hW p25;go_simp) ?_;(try simp only[zn]);refine zr 8 rfl (fun K hK=>?_);(try simp only[z1,z2,z3]);go_simp;refine(BW.out _ (aF wr)).mono ?_;rintro e w8 ⟨rfl,uG⟩;have qS:=aA (aF wr) uG;refine hK.out _ _ qS (fun hS=>?_);clear hK K;(try simp only[zn]);generalize kS x y=sr at *;refine zq 9 (.bool (!sr)) rfl ?_;(try simp only[zn]);refine wpAnyH_done RZ ?_ _;have sM:=zh (aA HW.out qS);clear hS qS uG BW vO wD wH xM xL xK B9 CK CJ p23 p24 p25;exact PO
   exact PS
 have HE:Hid (eqL a b=false):=zh (dN (fun e=>hl (by rw[e])));have xC:((a.length:Int)==(b.length:Int))=false:=SA;go_enter Tryz.func57,Tryz.ntmps57;exact QC
theorem jZ{a b:bA}(h:a≠b):(a.toList==b.toList)=false:=by rw[eE];exact decide_eq_false h
theorem rexp_step(d:Nat)(hD:RsX d):RsX (d+1):=by
 rintro⟨op,n,s,m,ns,xs⟩ ⟨op',n',s',m',ns',xs'⟩ N N' cx cy w hd hx hy;have hR:kS (.mk op n s m ns xs) (.mk op' n' s' m' ns' xs')=(decide (op=op')&&decide (n=n')&&decide (s=s')&&decide (m=m')&&decide (ns=ns')&&eG xs xs'):=by rw[kS]
 rw[aW] at hx hy;obtain⟨v1,v2,rfl,-,-,hn,ha⟩:=hx;obtain⟨v3,v4,rfl,-,-,yW,NB⟩:=hy;obtain⟨a1,c1,rfl,-⟩:=id hn;obtain⟨a2,c2,rfl,-⟩:=id ha;obtain⟨yM,wG,rfl,-⟩:=id yW;obtain⟨C6,AV,rfl,-⟩:=id NB;have vM:=aA (aB w (aN op n s m a1 ns.length c1 a2 xs.length c2)) (aB (w.alloc (aN op n s m a1 ns.length c1 a2 xs.length c2)) (aN op' n' s' m' yM ns'.length wG C6 xs'.length AV));have pP:=zh vM;have sX:=aC (aB (w.alloc (aN op n s m a1 ns.length c1 a2 xs.length c2)) (aN op' n' s' m' yM ns'.length wG C6 xs'.length AV)) (bY w (aN op n s m a1 ns.length c1 a2 xs.length c2));have qW:=bY (w.alloc (aN op n s m a1 ns.length c1 a2 xs.length c2)) (aN op' n' s' m' yM ns'.length wG C6 xs'.length AV);rw[show(w.alloc (aN op n s m a1 ns.length c1 a2 xs.length c2)).heap.size=w.heap.size+1 by simp] at qW;obtain⟨⟨x0,x1,x2,x3,x4,x5⟩,-⟩:=bx6 sX;obtain⟨⟨y0,y1,y2,y3,y4,y5⟩,-⟩:=bx6 qW;have pT:=zh sX;have pY:=zh qW;have HN:=zh (rnames_any ns ns' (hn.moves bP (aQ.later vM) R0) (yW.moves bP (aQ.later vM) R0))
 have HE:=zh (fun W(hb:Below w.heap.size w W)=>rexps_of xs xs' hD (fun x hx=>by
  have h1:=kW xs x hx;rw[bE] at hd
  omega) (w:=W) (ha.moves aH (aQ.later hb) R0) (NB.moves aH (aQ.later hb) R0))
 have H0:Hid (eqL xs xs'=eG xs xs'):=zh (by
  by_cases h:xs=xs'
  ·rw[gY h,(iN xs xs').2 h]
  rw[dN h];cases hq:eG xs xs' with
  |false=>rfl
  |true=>exact absurd ((iN xs xs').1 hq) h)
 have HSn:Hid (eqL ns ns'=decide (ns=ns')):=zh (by
  by_cases h:ns=ns'
  ·rw[gY h,decide_eq_true h]
  rw[dN h,decide_eq_false h])
 clear hn ha yW NB hD hd vM sX qW;have HR:=zh hR;clear hR;generalize kS (.mk op n s m ns xs) (.mk op' n' s' m' ns' xs')=rr at *;rw[H0.out] at HE;rw[HSn.out] at HN;clear H0 HSn;generalize eG xs xs'=q5 at *;generalize decide (ns=ns')=q4 at *;generalize ns.length=l1 at *;generalize ns'.length=l2 at *;generalize xs.length=l3 at *;generalize xs'.length=l4 at *;by_cases h1:op=op'
 ·subst h1;by_cases h2:n=n'
  ·subst h2;by_cases h3:s=s'
   ·subst h3;by_cases h4:m=m'
    ·subst h4;have sL:Hid (rr=(q4&&q5)):=zh SV;clear HR
     cases q4 with
     |false=>
      go_enter Tryz.func16,Tryz.ntmps16;go_wp2_with(go_at_call 58;refine HN.out.mono ?_;rintro e w3 ⟨rfl,pX⟩);go_ret;exact⟨aE T4,aA pP.out pX⟩
     |true=>
      go_enter Tryz.func16,Tryz.ntmps16;go_wp2_with(go_at_call 58;refine HN.out.mono ?_;rintro e w3 ⟨rfl,pX⟩;have qJ:=zh (aA pP.out pX);obtain⟨⟨z0,z1,z2,z3,z4,z5⟩,-⟩:=bx6 (aC pX pT.out);obtain⟨⟨t0,t1,t2,t3,t4,t5⟩,-⟩:=bx6 (aC pX pY.out);clear pX);go_wp2_with(go_at_call 57;refine(HE.out w3 qJ.out).mono ?_;rintro e w4 ⟨rfl,qC⟩);go_ret;exact⟨aE T4,aA qJ.out qC⟩
    have g:(m.toList==m'.toList)=false:=jZ h4;go_enter Tryz.func16,Tryz.ntmps16;go_wp2_with fail;go_ret;exact⟨aE (by rw[HR.out];simp[h4]),pP.out⟩
   have g:(s.toList==s'.toList)=false:=jZ h3;go_enter Tryz.func16,Tryz.ntmps16;exact RE
  have g:(n==n')=false:=beq_eq_false_iff_ne.2 h2;go_enter Tryz.func16,Tryz.ntmps16;exact QU
 have g:(op==op')=false:=beq_eq_false_iff_ne.2 h1;go_enter Tryz.func16,Tryz.ntmps16;exact P8
theorem depth_pos(x:Xp):0<bE x:=by cases x;rw[bE];omega
theorem rsX_all:∀d,RsX d
 |0=>fun x y N N' cx cy w h=>by have:=depth_pos x;omega
 |d+1=>rexp_step d (rsX_all d)
theorem oQ(x y:Xp){N N':Nat->Prop}{cx cy:List Value}{w:World}(hx:bJ N w x cx)(hy:bJ N' w y cy):
  Calls Tryz.prog 16 #[.agg cx.toArray,.agg cy.toArray] w fun e w'=>e=.returned (.bool (kS x y))/\Below w.heap.size w w':=rsX_all _ x y N N' cx cy w (Nat.le_refl _) hx hy
theorem rexps_any(a b:List Xp){N N':Nat->Prop}{va vb:Value}{w:World}(ha:aO 6 bJ N w va a)(hb:aO 6 bJ N' w vb b):
  Calls Tryz.prog 57 #[va,vb] w fun e w'=>e=.returned (.bool (eqL a b))/\Below w.heap.size w w':=rexps_of a b (rsX_all _) (fun x hx=>kW a x hx) ha hb
end Go.Proofs.YtiionicikdnnpaaGreatDoor
namespace Go.Proofs.YtiionicikdnnpaaGreatDoor
def Pz{α:Type}(l:List Tok)(r:PR α):Prop:=∀x,r=.error x->∃i,x.1=(aI l i).pos
section
variable {l:List Tok} {α β:Type}
theorem Pz.ok{a:α}{j:Nat}:Pz l (.ok (a,j):PR α):=fun x h=>TY
theorem Pz.stop{i:Nat}{e:Int}(_he:e≠0):Pz l (gO l i e:PR α):=fun x h=>by unfold gO at h;cases h;exact⟨i,rfl⟩
theorem Pz.bnd{m:PR α}{k:α->Nat->PR β}(h:Pz l m)(hk:∀a j,Pz l (k a j)):Pz l (m.bnd k):=fun x hx=>by
 cases hm:m with
 |error y=>rw[hm] at hx;have hx:(.error y:PR β)=.error x:=hx;injection hx with e;rw[<-e];exact h y hm
 |ok r=>obtain⟨a,j⟩:=r;rw[hm] at hx;exact hk a j x hx
theorem Pz.ite{c:Prop}[Decidable c]{a b:PR α}(h1:Pz l a)(h2:Pz l b):Pz l (if c then a else b):=by split<;>assumption
theorem gR{i:Nat}{s:bA}:Pz l (dD l i s):=by unfold dD;exact .ite .ok (.stop R0)
theorem end_pz{i:Nat}{f:Bool}{s:bA}:Pz l (kL l i f s):=UX
theorem name_pz{i:Nat}:Pz l (fC l i):=by unfold fC;exact .ite .ok (.stop R0)
theorem fresh_pz{i:Nat}{k:bA->Bool}:Pz l (fO l i k):=UY
theorem later_pz{i:Nat}{t:bA}{b:Bool}:Pz l (eC l i t b):=T7
theorem room_pz{i a b:Nat}:Pz l (eH l i a b):=by unfold eH;exact .ite .ok (.stop R0)
section
variable {rec:RecP} (hr:∀f i,Pz l (rec f i))
include hr
omit hr in
theorem dots_pz:∀(F:Nat)(e:Xp)(i:Nat),Pz l (iK l F e i)
 |0,e,i=>.ok
 |F+1,e,i=>by unfold iK;exact .ite (.bnd name_pz fun a j=>dots_pz F _ j) .ok
theorem ops_pz(form:Nat):∀(F own:Nat)(e:Xp)(i:Nat),Pz l (kR l rec form F own e i)
 |0,own,e,i=>.ok
 |F+1,own,e,i=>by
  unfold kR;split
  ·exact .ok
  exact .ite .ok (.bnd (hr _ _) fun a j=>ops_pz form F _ _ j)
theorem operandsFrom_pz:∀(F:Nat)(out:List Xp)(i:Nat),Pz l (bF l rec F out i)
 |0,out,i=>.ok
 |F+1,out,i=>by
  unfold bF;exact .bnd (.ite room_pz .ok) fun _ _=>.bnd (hr _ _) fun e j=>.ite (operandsFrom_pz F _ _) (.bnd gR fun _ _=>.ok)
theorem operands_pz{i:Nat}:Pz l (eO l rec i):=by unfold eO;exact .bnd gR fun _ j=>.ite .ok (operandsFrom_pz hr _ _ _)
theorem recordFrom_pz:∀(F:Nat)(names:List bA)(args:List Xp)(last:bA)(i:Nat),Pz l (bV l rec F names args last i)
 |0,_,_,_,_=>.ok
 |F+1,names,args,last,i=>by
  unfold bV;exact .bnd (.ite room_pz .ok) fun _ _=>.bnd later_pz fun s j=>.bnd gR fun _ j2=>.bnd (hr _ _) fun e j3=>.ite (recordFrom_pz F _ _ _ _) (.bnd gR fun _ _=>.ok)
theorem paren_pz{i:Nat}:Pz l (kQ l rec i):=by unfold kQ;exact .bnd (hr _ _) fun e j=>.bnd gR fun _ _=>.ok
theorem primary_pz{i:Nat}:Pz l (aP l rec i):=by
 unfold aP;refine .ite .ok (.ite .ok (.ite .ok (.ite (.bnd name_pz fun _ _=>.ok) (.ite (.bnd gR fun _ j=>.bnd (paren_pz hr) fun _ _=>.ok) (.ite ?_ (.ite (paren_pz hr) (.bnd name_pz fun s j=>?_)))))))
 ·unfold iP;exact .ite .ok (recordFrom_pz hr _ _ _ _ _)
 unfold mH;exact .ite (.bnd (operands_pz hr) fun _ _=>.ok) (.ite (.bnd name_pz fun _ _=>.bnd (operands_pz hr) fun _ _=>.ok) .ok)
theorem prefix_pz{form i:Nat}:Pz l (bS l rec form i):=by
 unfold bS
 exact .ite (.bnd (hr _ _) fun _ _=>.bnd gR fun _ _=>.bnd (hr _ _) fun _ _=>.bnd gR fun _ _=>.bnd (hr _ _) fun _ _=>.ok)
  (.ite (.bnd name_pz fun _ _=>.bnd gR fun _ _=>.bnd (hr _ _) fun _ _=>.bnd gR fun _ _=>.bnd (hr _ _) fun _ _=>.ok)
  (.ite (.bnd name_pz fun _ _=>.bnd (hr _ _) fun _ _=>.ok) (.ite (.bnd (hr _ _) fun _ _=>.ok) (.bnd (primary_pz hr) fun _ _=>.ok))))
end
theorem exp_pz:∀(f form i:Nat),Pz l (bL l f form i)
 |0,form,i=>.stop R0
 |f+1,form,i=>by
  unfold bL;exact .bnd (prefix_pz fun f' i'=>exp_pz f f' i') fun r j=>.bnd (.ite (dots_pz _ _ _) .ok) fun e k=>ops_pz (fun f' i'=>exp_pz f f' i') _ _ _ _ _
theorem more_pz{i:Nat}{t:Ty}{s:bA}:Pz l (lE l i t s):=by unfold lE;exact .ite (.bnd end_pz fun _ _=>.ok) (.bnd end_pz fun _ _=>.ok)
theorem typedFrom_pz{rec:Nat->PR Ty}(hr:∀i,Pz l (rec i)):∀(F:Nat)(fs:List Fld)(i:Nat),Pz l (dE l rec F fs i)
 |0,fs,i=>.ok
 |F+1,fs,i=>by
  unfold dE;exact .bnd (.ite room_pz .ok) fun _ _=>.bnd later_pz fun s j=>.bnd (hr _) fun t j2=>.bnd more_pz fun q j3=>.ite .ok (typedFrom_pz hr F _ _)
theorem typed_pz:∀(f i:Nat),Pz l (eF l f i)
 |0,i=>.stop R0
 |f+1,i=>by
  unfold eF;exact .ite .ok (.ite .ok (.bnd gR fun _ j=>.ite .ok (typedFrom_pz (fun i=>typed_pz f i) _ _ _)))
theorem fieldsFrom_pz{most:Nat}:∀(F:Nat)(fs:List Fld)(i:Nat),Pz l (cK l most F fs i)
 |0,fs,i=>.ok
 |F+1,fs,i=>by
  unfold cK;exact .bnd (.ite room_pz .ok) fun _ _=>.bnd fresh_pz fun s j=>.bnd (typed_pz _ _) fun t j2=>.bnd more_pz fun q j3=>.ite .ok (fieldsFrom_pz F _ _)
theorem fields_pz{most i:Nat}:Pz l (gK l most i):=by unfold gK;exact .bnd gR fun _ j=>.ite .ok (fieldsFrom_pz _ _ _)
theorem whole_pz{i:Nat}{s:bA}:Pz l (iM l i s):=by unfold iM;exact .bnd (exp_pz _ _ _) fun _ _=>.bnd end_pz fun _ _=>.ok
theorem wholesFrom_pz{s:bA}:∀(n:Nat)(out:List Xp)(i:Nat),Pz l (dR l s n out i)
 |0,out,i=>by unfold dR;exact .bnd whole_pz fun _ _=>.ok
 |n+1,out,i=>by unfold dR;exact .bnd whole_pz fun _ _=>wholesFrom_pz n _ _
theorem wholes_pz{n i:Nat}{s:bA}:Pz l (fL l n i s):=by
 cases n with
 |zero=>unfold fL;exact .bnd gR fun _ _=>.ok
 |succ n=>unfold fL;exact wholesFrom_pz _ _ _
theorem bang_pz{i:Nat}{f:Bool}:Pz l (lC l i f):=by unfold lC;exact .ite (.bnd end_pz fun _ _=>.ite .ok (.stop R0)) .ok
theorem function_pz{i:Nat}{k:bA->Bool}:Pz l (gW l i k):=by
 unfold gW;exact .bnd gR fun _ _=>.bnd fresh_pz fun _ _=>.bnd fields_pz fun _ _=>.bnd (typed_pz _ _) fun _ _=>.bnd bang_pz fun _ _=>.bnd end_pz fun _ _=>.bnd whole_pz fun _ _=>.ok
theorem uses_pz:∀(F:Nat)(out:List bA)(i:Nat),Pz l (eM l F out i)
 |0,out,i=>.ok
 |F+1,out,i=>by unfold eM;exact .ite (.bnd room_pz fun _ _=>.bnd fresh_pz fun _ _=>.bnd gR fun _ _=>uses_pz F _ _) .ok
theorem vars_pz:∀(F:Nat)(vs:List Fld)(es:List Xp)(i:Nat),Pz l (eV l F vs es i)
 |0,vs,es,i=>.ok
 |F+1,vs,es,i=>by unfold eV;exact .ite (.bnd room_pz fun _ _=>.bnd fresh_pz fun _ _=>.bnd (typed_pz _ _) fun _ _=>.bnd end_pz fun _ _=>.bnd whole_pz fun _ _=>vars_pz F _ _ _) .ok
theorem funcs_pz:∀(F:Nat)(fs:List Fnc)(i:Nat),Pz l (dQ l F fs i)
 |0,fs,i=>.ok
 |F+1,fs,i=>by unfold dQ;exact .ite (.bnd room_pz fun _ _=>.bnd function_pz fun _ _=>funcs_pz F _ _) .ok
theorem move_pz{n i:Nat}:Pz l (oY l n i):=by unfold oY;exact .ite (.bnd fields_pz fun _ _=>.bnd gR fun _ _=>.bnd wholes_pz fun _ _=>.bnd wholes_pz fun _ _=>.ok) .ok
theorem module_pz:Pz l (fD l):=by
 unfold fD;exact .bnd gR fun _ _=>.bnd name_pz fun _ _=>.bnd gR fun _ _=>.bnd (uses_pz _ _ _) fun _ _=>.bnd (vars_pz _ _ _ _) fun _ _=>.bnd (funcs_pz _ _ _) fun _ _=>.bnd move_pz fun _ _=>.ite .ok (.stop R0)
end
theorem parseXP_pz{l:List Tok}:Pz l (fA l):=by
 unfold fA;exact .bnd (exp_pz _ _ _) fun _ _=>.ite (.ite .ok (.stop R0)) (.stop R0)
theorem spanN_length(p:UInt8->Bool):∀(l:List UInt8),cR p l<=l.length
 |_=>(List.takeWhile_sublist _).length_le
theorem lexFrom_pos{s:bA}:∀(F i:Nat)(out:List Tok),i<=s.size->(∀t∈out,0<=t.pos/\t.pos<=(s.size:Int))->
  (∀x,eK s F i out=.error x->0<=x.1/\x.1<=(s.size:Int))/\∀l,eK s F i out=.ok l->∀t∈l,0<=t.pos/\t.pos<=(s.size:Int)
 |0,i,out,hi,ho=>by
  unfold eK;exact⟨fun x h=>TY,fun l h=>by cases h;exact ho⟩
 |F+1,i,out,hi,ho=>by
  have vR:=spanN_length cI (eZ s i).data.toList;have hrs:=iO s i;have hz:(eZ s i).data.toList.length=(eZ s i).size:=R2;unfold eK;split
  ·exact⟨fun x h=>TY,fun l h=>by
    cases h;intro t ht;rcases List.mem_append.1 ht with ht|ht
    ·exact ho t ht
    rw[List.mem_singleton.1 ht];exact⟨U8,Int.le_refl _⟩⟩
  rename_i pQ;have yV:=iO s (i+cR cI (eZ s i).data.toList);split
  ·exact⟨fun x h=>(by cases h;exact⟨VK,U6⟩),fun l h=>TY⟩
  rename_i k t n hn;have ht:=nextTok_ok RY hn;refine lexFrom_pos F _ _ RY fun u hu=>?_;rcases List.mem_append.1 hu with hu|hu
  ·exact ho u hu
  rw[List.mem_singleton.1 hu];exact⟨VK,U6⟩
theorem tokAt_pos{s:bA}{l:List Tok}(h:∀t∈l,0<=t.pos/\t.pos<=(s.size:Int))(i:Nat):0<=(aI l i).pos/\(aI l i).pos<=(s.size:Int):=by
 unfold aI;rw[List.getD_eq_getElem?_getD]
 cases hl:l[i]? with
 |none=>exact⟨Int.le_refl _,U8⟩
 |some t=>exact h t (List.mem_of_getElem? hl)
theorem lexL_pos{s:bA}:(∀x,lX s=.error x->0<=x.1/\x.1<=(s.size:Int))/\∀l,lX s=.ok l->∀t∈l,0<=t.pos/\t.pos<=(s.size:Int):=by
 unfold lX;split
 ·exact⟨fun x h=>(by cases h;exact⟨Int.le_refl _,U8⟩),fun l h=>TY⟩
 exact lexFrom_pos _ _ _ (Nat.zero_le _) (fun t h=>TY)
theorem parseL_pos{s:bA}{x:Int×Int}(h:eI s=.error x):0<=x.1/\x.1<=(s.size:Int):=by
 unfold eI at h;split at h
 ·rename_i y hy;cases h;exact lexL_pos.1 _ hy
 rename_i l hl;split at h
 ·rename_i y hy;cases h;obtain⟨i,hi⟩:=module_pz _ hy;rw[hi];exact tokAt_pos (lexL_pos.2 _ hl) i
 cases h
theorem parseX_pos{s:bA}{x:Int×Int}(h:fN s=.error x):0<=x.1/\x.1<=(s.size:Int):=by
 unfold fN at h;split at h
 ·rename_i y hy;cases h;exact lexL_pos.1 _ hy
 rename_i l hl;split at h
 ·rename_i y hy;cases h;obtain⟨i,hi⟩:=parseXP_pz _ hy;rw[hi];exact tokAt_pos (lexL_pos.2 _ hl) i
 cases h
theorem print_fullX{s:bA}{m:Xp}{e:Int}(h:fN s=.ok m)(hp:jD m=.error e):e=6:=by
 unfold jD at hp;rw[if_pos (iQ h)] at hp;unfold mG at hp;split at hp
 ·cases hp;rfl
 cases hp
end Go.Proofs.YtiionicikdnnpaaGreatDoor
