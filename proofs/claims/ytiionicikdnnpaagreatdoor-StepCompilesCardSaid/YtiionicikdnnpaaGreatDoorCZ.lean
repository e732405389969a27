/- Texts of this seat, joined. -/
import Derived.Test.YtiionicikdnnpaaGreatDoorCX
import Derived.Test.YtiionicikdnnpaaGreatDoorCF
set_option maxHeartbeats 4000000
set_option maxRecDepth 100000
set_option linter.unusedVariables false
set_option linter.unusedSimpArgs false
namespace Go.Proofs.YtiionicikdnnpaaGreatDoor
def Nz{α:Type}(r:PR α):Prop:=∀x,r=.error x->x.2≠0
section
variable {l:List Tok} {α β:Type}
theorem Nz.ok{a:α}{j:Nat}:Nz (.ok (a,j):PR α):=fun x h=>aAW
theorem Nz.stop{i:Nat}{e:Int}(he:e≠0):Nz (kL l i e:PR α):=fun x h=>by unfold kL at h;cases h;exact he
theorem Nz.bnd{m:PR α}{k:α->Nat->PR β}(h:Nz m)(hk:∀a j,Nz (k a j)):Nz (m.bnd k):=fun x hx=>by
 cases hm:m with
 |error y=>rw[hm] at hx;have hx:(.error y:PR β)=.error x:=hx;injection hx with e;rw[<-e];exact h y hm
 |ok r=>obtain⟨a,j⟩:=r;rw[hm] at hx;exact hk a j x hx
theorem Nz.ite{c:Prop}[Decidable c]{a b:PR α}(h1:Nz a)(h2:Nz b):Nz (if c then a else b):=by split<;>assumption
theorem iI{i:Nat}{s:bA}:Nz (eB l i s):=by unfold eB;exact .ite .ok (.stop YO)
theorem end_nz{i:Nat}{f:Bool}{s:bA}:Nz (lX l i f s):=by unfold lX;exact .ite (.ite .ok (.stop YO)) (.stop YO)
theorem name_nz{i:Nat}:Nz (gK l i):=by unfold gK;exact .ite .ok (.stop YO)
theorem fresh_nz{i:Nat}{k:bA->Bool}:Nz (gQ l i k):=by unfold gQ;exact .ite (.ite (.stop YO) .ok) (.stop YO)
theorem later_nz{i:Nat}{t:bA}{b:Bool}:Nz (fP l i t b):=by unfold fP;exact .ite (.ite (.stop YO) (.ite (.stop YO) .ok)) (.stop YO)
theorem room_nz{i a b:Nat}:Nz (fD l i a b):=by unfold fD;exact .ite .ok (.stop YO)
section
variable {rec:RecP} (hr:∀f i,Nz (rec f i))
include hr
omit hr in
theorem dots_nz:∀(F:Nat)(e:Xp)(i:Nat),Nz (lJ l F e i)
 |0,e,i=>.ok
 |F+1,e,i=>by unfold lJ;exact .ite (.bnd name_nz fun a j=>dots_nz F _ j) .ok
theorem ops_nz(form:Nat):∀(F own:Nat)(e:Xp)(i:Nat),Nz (nH l rec form F own e i)
 |0,own,e,i=>.ok
 |F+1,own,e,i=>by
  unfold nH;split
  ·exact .ok
  exact .ite .ok (.bnd (hr _ _) fun a j=>ops_nz form F _ _ j)
theorem operandsFrom_nz:∀(F:Nat)(out:List Xp)(i:Nat),Nz (bS l rec F out i)
 |0,out,i=>.ok
 |F+1,out,i=>by
  unfold bS;exact .bnd (.ite room_nz .ok) fun _ _=>.bnd (hr _ _) fun e j=>.ite (operandsFrom_nz F _ _) (.bnd iI fun _ _=>.ok)
theorem operands_nz{i:Nat}:Nz (iA l rec i):=by unfold iA;exact .bnd iI fun _ j=>.ite .ok (operandsFrom_nz hr _ _ _)
theorem recordFrom_nz:∀(F:Nat)(names:List bA)(args:List Xp)(last:bA)(i:Nat),Nz (dA l rec F names args last i)
 |0,_,_,_,_=>.ok
 |F+1,names,args,last,i=>by
  unfold dA;exact .bnd (.ite room_nz .ok) fun _ _=>.bnd later_nz fun s j=>.bnd iI fun _ j2=>.bnd (hr _ _) fun e j3=>.ite (recordFrom_nz F _ _ _ _) (.bnd iI fun _ _=>.ok)
theorem paren_nz{i:Nat}:Nz (oY l rec i):=by unfold oY;exact .bnd (hr _ _) fun e j=>.bnd iI fun _ _=>.ok
theorem primary_nz{i:Nat}:Nz (aQ l rec i):=by
 unfold aQ;refine .ite .ok (.ite .ok (.ite .ok (.ite (.bnd name_nz fun _ _=>.ok) (.ite (.bnd iI fun _ j=>.bnd (paren_nz hr) fun _ _=>.ok) (.ite ?_ (.ite (paren_nz hr) (.bnd name_nz fun s j=>?_)))))))
 ·unfold kV;exact .ite .ok (recordFrom_nz hr _ _ _ _ _)
 unfold pW;exact .ite (.bnd (operands_nz hr) fun _ _=>.ok) (.ite (.bnd name_nz fun _ _=>.bnd (operands_nz hr) fun _ _=>.ok) .ok)
theorem prefix_nz{form i:Nat}:Nz (cH l rec form i):=by
 unfold cH
 exact .ite (.bnd (hr _ _) fun _ _=>.bnd iI fun _ _=>.bnd (hr _ _) fun _ _=>.bnd iI fun _ _=>.bnd (hr _ _) fun _ _=>.ok)
  (.ite (.bnd name_nz fun _ _=>.bnd iI fun _ _=>.bnd (hr _ _) fun _ _=>.bnd iI fun _ _=>.bnd (hr _ _) fun _ _=>.ok)
  (.ite (.bnd name_nz fun _ _=>.bnd (hr _ _) fun _ _=>.ok) (.ite (.bnd (hr _ _) fun _ _=>.ok) (.bnd (primary_nz hr) fun _ _=>.ok))))
end
theorem exp_nz:∀(f form i:Nat),Nz (bM l f form i)
 |0,form,i=>.stop YO
 |f+1,form,i=>by
  unfold bM;exact .bnd (prefix_nz fun f' i'=>exp_nz f f' i') fun r j=>.bnd (.ite (dots_nz _ _ _) .ok) fun e k=>ops_nz (fun f' i'=>exp_nz f f' i') _ _ _ _ _
theorem more_nz{i:Nat}{t:Ty}{s:bA}:Nz (nU l i t s):=by unfold nU;exact .ite (.bnd end_nz fun _ _=>.ok) (.bnd end_nz fun _ _=>.ok)
theorem typedFrom_nz{rec:Nat->PR Ty}(hr:∀i,Nz (rec i)):∀(F:Nat)(fs:List Fld)(i:Nat),Nz (eD l rec F fs i)
 |0,fs,i=>.ok
 |F+1,fs,i=>by
  unfold eD;exact .bnd (.ite room_nz .ok) fun _ _=>.bnd later_nz fun s j=>.bnd (hr _) fun t j2=>.bnd more_nz fun q j3=>.ite .ok (typedFrom_nz hr F _ _)
theorem typed_nz:∀(f i:Nat),Nz (fK l f i)
 |0,i=>.stop YO
 |f+1,i=>by
  unfold fK;exact .ite .ok (.ite .ok (.bnd iI fun _ j=>.ite .ok (typedFrom_nz (fun i=>typed_nz f i) _ _ _)))
theorem fieldsFrom_nz{most:Nat}:∀(F:Nat)(fs:List Fld)(i:Nat),Nz (dG l most F fs i)
 |0,fs,i=>.ok
 |F+1,fs,i=>by
  unfold dG;exact .bnd (.ite room_nz .ok) fun _ _=>.bnd fresh_nz fun s j=>.bnd (typed_nz _ _) fun t j2=>.bnd more_nz fun q j3=>.ite .ok (fieldsFrom_nz F _ _)
theorem fields_nz{most i:Nat}:Nz (iQ l most i):=by unfold iQ;exact .bnd iI fun _ j=>.ite .ok (fieldsFrom_nz _ _ _)
theorem whole_nz{i:Nat}{s:bA}:Nz (kI l i s):=by unfold kI;exact .bnd (exp_nz _ _ _) fun _ _=>.bnd end_nz fun _ _=>.ok
theorem wholesFrom_nz{s:bA}:∀(n:Nat)(out:List Xp)(i:Nat),Nz (fM l s n out i)
 |0,out,i=>by unfold fM;exact .bnd whole_nz fun _ _=>.ok
 |n+1,out,i=>by unfold fM;exact .bnd whole_nz fun _ _=>wholesFrom_nz n _ _
theorem wholes_nz{n i:Nat}{s:bA}:Nz (gX l n i s):=by
 cases n with
 |zero=>unfold gX;exact .bnd iI fun _ _=>.ok
 |succ n=>unfold gX;exact wholesFrom_nz _ _ _
theorem bang_nz{i:Nat}{f:Bool}:Nz (nL l i f):=by unfold nL;exact .ite (.bnd end_nz fun _ _=>.ite .ok (.stop YO)) .ok
theorem function_nz{i:Nat}{k:bA->Bool}:Nz (jY l i k):=by
 unfold jY;exact .bnd iI fun _ _=>.bnd fresh_nz fun _ _=>.bnd fields_nz fun _ _=>.bnd (typed_nz _ _) fun _ _=>.bnd bang_nz fun _ _=>.bnd end_nz fun _ _=>.bnd whole_nz fun _ _=>.ok
theorem uses_nz:∀(F:Nat)(out:List bA)(i:Nat),Nz (fV l F out i)
 |0,out,i=>.ok
 |F+1,out,i=>by unfold fV;exact .ite (.bnd room_nz fun _ _=>.bnd fresh_nz fun _ _=>.bnd iI fun _ _=>uses_nz F _ _) .ok
theorem vars_nz:∀(F:Nat)(vs:List Fld)(es:List Xp)(i:Nat),Nz (gH l F vs es i)
 |0,vs,es,i=>.ok
 |F+1,vs,es,i=>by unfold gH;exact .ite (.bnd room_nz fun _ _=>.bnd fresh_nz fun _ _=>.bnd (typed_nz _ _) fun _ _=>.bnd end_nz fun _ _=>.bnd whole_nz fun _ _=>vars_nz F _ _ _) .ok
theorem funcs_nz:∀(F:Nat)(fs:List Fnc)(i:Nat),Nz (eV l F fs i)
 |0,fs,i=>.ok
 |F+1,fs,i=>by unfold eV;exact .ite (.bnd room_nz fun _ _=>.bnd function_nz fun _ _=>funcs_nz F _ _) .ok
theorem move_nz{n i:Nat}:Nz (moveP l n i):=by unfold moveP;exact .ite (.bnd fields_nz fun _ _=>.bnd iI fun _ _=>.bnd wholes_nz fun _ _=>.bnd wholes_nz fun _ _=>.ok) .ok
theorem module_nz:Nz (gD l):=by
 unfold gD;exact .bnd iI fun _ _=>.bnd name_nz fun _ _=>.bnd iI fun _ _=>.bnd (uses_nz _ _ _) fun _ _=>.bnd (vars_nz _ _ _ _) fun _ _=>.bnd (funcs_nz _ _ _) fun _ _=>.bnd move_nz fun _ _=>.ite .ok (.stop YO)
end
theorem lexFrom_nz{s:bA}:∀(F i:Nat)(out:List Tok)(x:Int×Int),gE s F i out=.error x->x.2≠0
 |0,i,out,x,h=>by unfold gE at h;cases h
 |F+1,i,out,x,h=>by
  unfold gE at h;split at h
  ·cases h
  split at h
  ·rename_i e he;cases h;exact nextTok_err he
  exact lexFrom_nz F _ _ x h
theorem lexL_nz{s:bA}{x:Int×Int}(h:lexL s=.error x):x.2≠0:=by
 unfold lexL at h;split at h
 ·cases h;decide
 exact lexFrom_nz _ _ _ x h
end Go.Proofs.YtiionicikdnnpaaGreatDoor
namespace Go.Proofs.YtiionicikdnnpaaGreatDoor
open Go.RowKit
section
variable {P:Program}
theorem run_append_at_string(w:World)(base:Nat)(t u ty e:TypeId)(i:TypeInfo)(ht:P.underlying t=some (.slice e))(hu:P.underlying u=some .string)(hi:P.info? e=some i)(hz:i.zero=some (.int .u8 0))
  (CE:i.size=1) (NM:i.bytes=1) (v:Value) (n:Nat) (xs:List Value) (rP:w.ownsRow base e 1 v n xs) (s:bA)
  (h63:n+s.size<=maxLen) (hbytes:n+s.size<=140737488355328) (CJ:base<=w.heap.size):
  ∃v' w',(Builtin.append_ #[t,u] ty #[v,.string s]).run P w=.ok v' w'/\w'.ownsRow base e 1 v' (n+s.size) (xs++Lib.strCells s)/\w.grownBy w' v.ownBlock/\(v'.ownBlock=v.ownBlock\/v'.ownBlock=some w.heap.size):=by
 obtain⟨v',w',hr,h2,h3,h4⟩:=Lib.run_append_own_string (P:=P) w base t u ty e i ht hu hi hz CE NM v n xs rP s h63 hbytes CJ;refine⟨v',w',hr,h2,h3,?_⟩;rcases rP.2 with⟨rfl,rfl⟩|⟨g,cap,cur,rfl,TN,hg,hnc,hcm,yE,QU⟩
 ·have hx:xs=[]:=List.eq_nil_of_length_eq_zero (by simpa using rP.1);subst hx;obtain⟨v2,w2,wB,k2,-,k4⟩:=Lib.run_append_own_string (P:=P) w w.heap.size t u ty e i ht hu hi hz CE NM (.slice none 0 0) 0 [] (World.ownsRow_nil w _ e 1) s h63 hbytes (Nat.le_refl _);rw[hr] at wB;cases wB;by_cases hm:s.size=0
  ·have NF:v'=.slice none 0 0:=h4.2 ⟨rfl,hm⟩;subst NF;exact .inl rfl
  have hr3:=run_append_nil_string (P:=P) w t u ty e i (.int .u8 0) ht hu hi hz s YM (by simp only[maxLen] at h63;omega) (by rw[NM];omega);rw[hr] at hr3;cases hr3;exact .inr rfl
 by_cases wX:n+s.size<=cap
 ·have hcs':cur.size=cap:=by simpa using yE
  have wB:=Lib.run_append_room_string (P:=P) w t u ty e i ht hu hi CE g n cap cur hg s wX YM;rw[hr] at wB;cases wB;exact .inl rfl
 have holds:∀j u,xs[j]? =some u->w.cell? ((⟨g,0,none⟩:Addr).add j)=some u:=rP.cells (g:=g) rfl;have wB:=Lib.run_append_grow_string (P:=P) w t u ty e i (.int .u8 0) ht hu hi hz ⟨g,0,none⟩ n cap xs (by rw[CE];simpa using rP.1) holds s YM (by simp only[maxLen] at h63;omega) (by rw[NM];exact growslice_fits YM YM);rw[hr] at wB;cases wB;exact .inr rfl
theorem qI{w:World}{ops:Array Oper}{rest:List Oper}{o:Oper}{a:Act}{Q:Exit->Act->World->Prop}(hgd:o.guard=none)(sl x:Operand)(t u:TypeId)
  (ho:o.op=.call {callee:=.builtin .append,args:=#[sl,x],argTypes:=#[t,u]})
  (base:Nat) (e:TypeId) (i:TypeInfo) (ht:P.underlying t=some (.slice e)) (hu:P.underlying u=some .string) (hi:P.info? e=some i) (hz:i.zero=some (.int .u8 0))
  (CE:i.size=1) (NM:i.bytes=1)
  (v:Value) (n:Nat) (xs:List Value) (hs:a.eval sl=v) (rP:w.ownsRow base e 1 v n xs) (s:bA) (hx:a.eval x=.string s)
  (h63:n+s.size<=maxLen) (hbytes:n+s.size<=140737488355328) (CJ:base<=w.heap.size)
  (h:∀v' w',w'.ownsRow base e 1 v' (n+s.size) (xs++Lib.strCells s)->w.grownBy w' v.ownBlock->(v'.ownBlock=v.ownBlock\/v'.ownBlock=some w.heap.size)->wpList P ops Q rest (a.put o.dst v') w'):wpList P ops Q (o::rest) a w:=by
 refine wpList_plain hgd fun K hK=>?_;obtain⟨v',w',hr,h2,h3,h4⟩:=run_append_at_string (P:=P) w base t u o.type e i ht hu hi hz CE NM v n xs rP s h63 hbytes CJ;unfold Oper.wp execOp;simp only[ho,resolve,invoke,builtin,Sem.run_bind,Sem.run_pure,Result.andThen_ok,List.map_toArray,List.map_cons,List.map_nil,hs,hx,hr];exact hK _ _ (h v' w' h2 h3 h4)
end
theorem own_val{w:World}{B n:Nat}{e:TypeId}{k:Nat}{v:Value}{xs:List Value}(h:w.ownsRow B e k v n xs):∃a c,v=.slice a n c:=by
 rcases h.2 with⟨rfl,rfl⟩|⟨g,cap,cur,rfl,-⟩
 ·exact⟨none,0,rfl⟩
 exact⟨_,_,rfl⟩
theorem wrSize:(Tryz.prog.info? 102).map (·.size)=some 3:=YN
theorem wrLies:liesAt Tryz.prog Tryz.prog.depth 102 (3 / Tryz.prog.cellsOf 102) 0 100 1=true:=YN
theorem bytInfo:(Tryz.prog.info? 5).map (fun i=>(i.zero,i.size,i.bytes))=some (some (.int .u8 0),1,1):=YN
theorem bldSz:(Tryz.prog.info? 100).map (·.size)=some 2:=YN
abbrev bv(l:List UInt8):List Value:=l.map fun b=>Value.int .u8 b.toNat
structure Wr (B wb:Nat) (bl:List UInt8) (ins:Bool) (v:Value) (w:World):Prop where
 box:∃p,(p=Value.pointer none\/p=Value.pointer (some ⟨wb,0,none⟩))/\w.heap[wb]? =some (.cells #[p,v,.bool ins] 102)
 own:w.ownsRow B 5 1 v bl.length (bv bl)
 hcb:wb<B
 h11:11<=wb
 big:B<=w.heap.size
 glob:eJ w
section
variable {B wb:Nat} {bl:List UInt8} {ins:Bool} {v v':Value} {w w':World}
theorem Wr.lt(h:Wr B wb bl ins v w):wb<w.heap.size:=by have:=h.hcb;have:=h.big;omega
theorem Wr.owns(h:Wr B wb bl ins v w):∀b,v.ownBlock=some b->B<=b/\b<w.heap.size:=h.own.lt
theorem Wr.n11(h:Wr B wb bl ins v w):∀k,k<11->¬inC wb v k:=fun k hk hs=>by
 have h1:=h.h11;have h2:=h.hcb;rcases hs with hs|hs
 ·omega
 have:=(h.owns k hs).1;omega
theorem owns_later{T:TypeId}{n:Nat}{xs:List Value}(h:w.ownsRow B T 1 v n xs)(hb:Below w.heap.size w w'):w'.ownsRow B T 1 v n xs:=by
 obtain⟨h1,h2⟩:=h;refine⟨h1,h2.imp id ?_⟩;rintro⟨g,cap,cur,hv,hg,D9,r⟩;exact⟨g,cap,cur,hv,hg,aH hb D9,r⟩
theorem Wr.later(h:Wr B wb bl ins v w)(hb:Below w.heap.size w w'):Wr B wb bl ins v w':=by
 obtain⟨p,hp,vE⟩:=h.box;exact⟨⟨p,hp,aH hb vE⟩,owns_later h.own hb,h.hcb,h.h11,Nat.le_trans h.big hb.size,h.glob.later hb⟩
theorem Wr.val(h:Wr B wb bl ins v w):∃a c,v=.slice a bl.length c:=by
 rcases h.own.2 with⟨hv,h0⟩|⟨g,cap,cur,hv,-⟩
 ·exact⟨none,0,by rw[h0];exact hv⟩
 exact⟨_,_,hv⟩
theorem Wr.new{b:Nat}(h:Wr B wb bl ins v w)(hb:w.heap.size<=b):cE wb v b:=⟨by have:=h.lt;omega,fun e=>by have:=(h.owns b e).2;omega⟩
theorem owns_set{T:TypeId}{n j:Nat}{xs:List Value}{u:Value}(h:w.ownsRow B T 1 v n xs)(hB:wb<B):(w.setCell ⟨wb,j,none⟩ u).ownsRow B T 1 v n xs:=by
 obtain⟨h1,h2⟩:=h;refine⟨h1,h2.imp id ?_⟩;rintro⟨g,cap,cur,hv,hg,D9,r⟩;exact⟨g,cap,cur,hv,hg,(Off.setCell (S:=fun b=>b=wb) w rfl).heap YM D9,r⟩
theorem Wr.used(h:Wr B wb bl ins v w):Wr B wb bl ins v (w.setCell ⟨wb,0,none⟩ (.pointer (some ⟨wb,0,none⟩)))/\Ext wb v w v (w.setCell ⟨wb,0,none⟩ (.pointer (some ⟨wb,0,none⟩))):=by
 obtain⟨p,hp,vE⟩:=h.box;have ho:Off (inC wb v) w (w.setCell ⟨wb,0,none⟩ (.pointer (some ⟨wb,0,none⟩))):=Off.setCell w (.inl rfl);exact⟨⟨⟨_,.inr rfl,aT vE _⟩,owns_set h.own h.hcb,h.hcb,h.h11,by simpa using h.big,h.glob.off ho h.n11⟩,ho,fun _ h=>.inl h⟩
theorem Wr.flag(h:Wr B wb bl ins v w)(q:Bool):Wr B wb bl q v (w.setCell ⟨wb,2,none⟩ (.bool q))/\Ext wb v w v (w.setCell ⟨wb,2,none⟩ (.bool q)):=by
 obtain⟨p,hp,vE⟩:=h.box;have ho:Off (inC wb v) w (w.setCell ⟨wb,2,none⟩ (.bool q)):=Off.setCell w (.inl rfl);exact⟨⟨⟨p,hp,aT vE _⟩,owns_set h.own h.hcb,h.hcb,h.h11,by simpa using h.big,h.glob.off ho h.n11⟩,ho,fun _ h=>.inl h⟩
theorem Wr.push{bl2:List UInt8}{w2 w3:World}(h:Wr B wb bl ins v w)(hb:Below w.heap.size w w2)(rP:w3.ownsRow B 5 1 v' (bl.length+bl2.length) (bv bl++bv bl2))(rN:w2.grownBy w3 v.ownBlock)(sD:v'.ownBlock=v.ownBlock\/v'.ownBlock=some w2.heap.size):
  (∃p,w3.heap[wb]? =some (.cells #[p,v,.bool ins] 102))/\Wr B wb (bl++bl2) ins v' (w3.setCell ⟨wb,1,none⟩ v')/\Ext wb v w v' (w3.setCell ⟨wb,1,none⟩ v'):=by
 have hcb:=h.hcb;have sB:Off (fun b=>v.ownBlock=some b) w2 w3:=⟨rN.os,rN.tape,rN.output,rN.size,fun k hk hn=>rN.block k hk (fun e=>hn e.symm)⟩;have rO:¬v.ownBlock=some wb:=fun e=>by have:=(h.owns wb e).1;omega
 obtain⟨p,hp,vE⟩:=(h.later hb).box;have xU:=sB.heap rO vE
 have hx:Ext wb v w v' (w3.setCell ⟨wb,1,none⟩ v'):=by
  refine⟨(Ba hb).trans ((sB.mono fun b hb=>.inr hb).trans (Off.setCell (S:=inC wb v) w3 (.inl rfl))),fun b rQ=>?_⟩;rcases sD with h1|h1
  ·exact .inl (h1▸rQ)
  rw[h1] at rQ;cases rQ;exact .inr hb.size
 refine⟨⟨p,xU⟩,⟨⟨p,hp,?_⟩,?_,hcb,h.h11,?_,h.glob.off hx.off h.n11⟩,hx⟩
 ·rw[aT xU];rfl
 ·rw[List.length_append,bv,List.map_append];exact owns_set rP hcb
 have h1:=hx.size;have h2:=h.big;omega
end
def WrPost(B wb:Nat)(v:Value)(w:World)(r:Value)(bl:List UInt8)(ins:Bool)(e:Ending)(w':World):Prop:=∃v',e=.returned r/\Wr B wb bl ins v' w'/\Ext wb v w v' w'
theorem wrCheck{B wb:Nat}{bl:List UInt8}{ins:Bool}{v:Value}{w:World}(h:Wr B wb bl ins v w):
  Calls Tryz.prog 195 #[.pointer (some ⟨wb,0,none⟩)] w (WrPost B wb v w (.tuple #[]) bl ins):=by
 obtain⟨p,hp,vE⟩:=h.box;have HU:=zh h.used;have HH:=zh h;obtain⟨⟨h0,-⟩,f0,-⟩:=bx3 vE;rcases hp with rfl|rfl
 ·have hsh:w.shape? wb=some (102,3):=by simp[World.shape?,vE]
  clear h vE;obtain⟨j,hj,hjs⟩:=Option.map_eq_some_iff.1 bldSz;go_enter Tryz.func195,Tryz.ntmps195
  go_wp2
  rw[Lib.run_to_unsafe w ⟨wb,0,none⟩ Tryz.underlying97 Tryz.underlying237 hj (by rw[hjs];decide) hsh (Nat.zero_lt_succ 2)];simp only[Result.andThen];rw[Oper.upon_value]
  go_wp2
  rw[run_callFunc_extern Tryz.func228 YN YN YN (e:=Extern.AbiNoEscape.same) YN];rw[Lib.run_noEscape];simp only[Result.andThen];rw[Oper.upon_value]
  go_wp2
  rw[Lib.run_from_unsafe w ⟨wb,0,none⟩ Tryz.underlying237 Tryz.underlying97 hj hsh wrLies];simp only[Result.andThen];rw[Oper.upon_value]
  go_wp2
  go_end0;exact⟨_,rfl,HU.out.1,HU.out.2⟩
 clear h vE HU;obtain⟨j,hj,_⟩:=Option.map_eq_some_iff.1 bldSz;go_enter Tryz.func195,Tryz.ntmps195
 go_wp2
 rw[Lib.run_neq_ptr_same w _ Tryz.underlying97 hj]
 go_wp2
 go_end0;exact⟨_,rfl,HH.out,Ext.refl _ _ _⟩
theorem wrByte{B wb:Nat}{bl:List UInt8}{ins:Bool}{v:Value}{w:World}(c:UInt8)(cc:Int)(J3:cc=(c.toNat:Int))(h:Wr B wb bl ins v w)(hlen:bl.length+1<=140737488355328):
  Calls Tryz.prog 149 #[.pointer (some ⟨wb,0,none⟩),.int .u8 cc] w (WrPost B wb v w .nilIface (bl++[c]) ins):=by
 obtain⟨i0,hi,vA,tF,sY⟩:=info_parts bytInfo;have HC:=zh (wrCheck h);have HV:Hid (bv [c]=[.int .u8 cc]):=zh (by rw[J3];rfl);clear h J3;go_enter Tryz.func149,Tryz.ntmps149;go_wp2_with(go_at_call 195;refine HC.out.mono ?_);rintro e w1 ⟨v1,rfl,h1,xF⟩;have A8:=zh xF;have HH1:=zh h1;obtain⟨p1,QY,EG⟩:=h1.box;obtain⟨⟨b0,b1,b2⟩,f0,f1,f2⟩:=bx3 EG;obtain⟨a1,c1,rfl⟩:=h1.val;have hbg1:=h1.big;clear EG QY h1 xF;have rZ:=zh (aA w1 (.cells #[.int .u8 cc] 5));go_wp2_with(at_builtin;refine wpList_append_own_at _ rfl _ _ 98 rfl B 5 i0 (.int .u8 0) 1 1 Tryz.underlying98 hi vA tF sY rfl YO _ _ _ rfl (HH1.out.later rZ.out).own ⟨w1.heap.size,0,none⟩ 1 1 [.int .u8 cc] rfl rfl ?c1 ?c2 ?c3 ?c4 ?c5 ?_)
 case c1=>
  intro j u hj
  match j,hj with
  |0,hj=>simp at hj;subst hj;simp[Addr.add]
 case c2=>intro u hu;simp at hu;subst hu;rfl
 case c3=>unfold maxLen;omega
 case c4=>omega
 case c5=>simp;omega
 intro v' w2 tT rN _ sD;have hq:=HH1.out.push (bl2:=[c]) rZ.out (by rw[HV.out];exact tT) rN aAm;obtain⟨⟨p3,xU⟩,q1,q2⟩:=hq;obtain⟨⟨d0,d1,d2⟩,g0,g1,g2⟩:=bx3 xU;have Q1:=zh q1;have Q2:=zh (A8.out.trans q2);obtain⟨a3,c3,rfl⟩:=own_val tT;clear q1 q2 tT rN sD xU b0 b1 b2 f0 f1 f2
 go_wp2
 go_ret;exact⟨_,rfl,Q1.out,Q2.out⟩
theorem wrString{B wb:Nat}{bl:List UInt8}{ins:Bool}{v:Value}{w:World}(s:bA)(h:Wr B wb bl ins v w)(hlen:bl.length+s.size<=140737488355328):
  Calls Tryz.prog 150 #[.pointer (some ⟨wb,0,none⟩),.string s] w (WrPost B wb v w (.tuple #[.int .i64 s.size,.nilIface]) (bl++s.data.toList) ins):=by
 obtain⟨i0,hi,vA,tF,sY⟩:=info_parts bytInfo;have HC:=zh (wrCheck h);have HL:Hid (s.data.toList.length=s.size):=zh YR;clear h;go_enter Tryz.func150,Tryz.ntmps150;go_wp2_with(go_at_call 195;refine HC.out.mono ?_);rintro e w1 ⟨v1,rfl,h1,xF⟩;have A8:=zh xF;have HH1:=zh h1;obtain⟨p1,QY,EG⟩:=h1.box;obtain⟨⟨b0,b1,b2⟩,f0,f1,f2⟩:=bx3 EG;obtain⟨a1,c1,rfl⟩:=h1.val;have hbg1:=h1.big;clear EG QY h1 xF;go_wp2_with(at_builtin;refine qI rfl _ _ 98 9 rfl B 5 i0 Tryz.underlying98 Tryz.underlying9 hi vA tF sY _ _ _ rfl HH1.out.own s rfl ?c3 ?c4 ?c5 ?_);case c3=>unfold maxLen;omega
 case c4=>omega
 case c5=>omega
 intro v' w2 tT rN sD;have hq:=HH1.out.push (bl2:=s.data.toList) (Below.refl _ _) (by rw[HL.out];exact tT) rN sD;obtain⟨⟨p3,xU⟩,q1,q2⟩:=hq;obtain⟨⟨d0,d1,d2⟩,g0,g1,g2⟩:=bx3 xU;have Q1:=zh q1;have Q2:=zh (A8.out.trans q2);obtain⟨a3,c3,rfl⟩:=own_val tT;clear q1 q2 tT rN sD xU b0 b1 b2 f0 f1 f2
 go_wp2
 go_ret2;exact⟨_,rfl,Q1.out,Q2.out⟩
end Go.Proofs.YtiionicikdnnpaaGreatDoor
namespace Go.Proofs.YtiionicikdnnpaaGreatDoor
open Go.RowKit
theorem WW{p:Prop}(h:p:=by
 go_roundw;case rel=>exact⟨q+1,v4,YM,YZ,zh (by rw[HT.out];have h:=(R8.out.flag true).1;simpa[WSt.put,emit_one,insL,List.append_assoc] using h),zh (uH.out.trans (R8.out.flag true).2)⟩
 case measure=>simp[intOf];omega):p:=h
theorem XI{p:Prop}(h:p:=by
 go_wp2_with fail;go_end0
 exact⟨v1,rfl,by have h:=HC.out;rw[HT.out] at h;exact h,HE.out⟩):p:=h
abbrev WSt:=List UInt8×Bool
def WSt.put(st:WSt)(ts:List bA):WSt:=(st.1++kF st.2 ts,insL st.2 ts)
def WSt.line(st:WSt):WSt:=((st.put [dP]).1++[10],false)
theorem cG(st:WSt)(a b:List bA):(st.put a).put b=st.put (a++b):=by
 unfold WSt.put;simp only[emit_app,ins_app,List.append_assoc]
theorem kC(st:WSt):st.put []=st:=by
 unfold WSt.put;obtain⟨l,i⟩:=st;simp[kF,insL]
def eE(st:WSt)(ts:List bA):Prop:=st.1.length+tsz ts<=140737488355328
theorem eE.app{st:WSt}{a b:List bA}(h:eE st (a++b)):eE st a/\eE (st.put a) b:=by
 unfold eE at *;rw[fN] at h;have:=emit_size st.2 a;refine⟨YM,?_⟩;show(st.1++kF st.2 a).length+_<=_;rw[List.length_append];omega
theorem eE.cons{st:WSt}{t:bA}{b:List bA}(h:eE st (t::b)):eE st [t]/\eE (st.put [t]) b:=eE.app (a:=[t]) h
abbrev WrS(B wb:Nat)(st:WSt)(v:Value)(w:World):Prop:=Wr B wb st.1 st.2 v w
def WrP(B wb:Nat)(v:Value)(w:World)(r:Value)(st:WSt)(e:Ending)(w':World):Prop:=∃v',e=.returned r/\WrS B wb st v' w'/\Ext wb v w v' w'
theorem bv_len(l:List UInt8):(bv l).length=l.length:=YR
theorem emit_one(ins:Bool)(t:bA):kF ins [t]=(if ins then[32] else[])++t.data.toList:=by simp[kF]
theorem tsz_mem{t:bA}:∀{l:List bA},t∈l->t.size+1<=tsz l
 |[],h=>aAW
 |x::r,h=>by
  rw[aW];rcases List.mem_cons.1 h with rfl|h
  ·omega
  have:=tsz_mem h;omega
theorem take_put{st:WSt}{ts:List bA}{q:Nat}{x:bA}(hx:ts[q]? =some x):st.put (ts.take (q+1))=(st.put (ts.take q)).put [x]:=by
 rw[cG,List.take_add_one,hx];rfl
theorem wput_any{B wb:Nat}{st:WSt}{v vs:Value}{ts:List bA}{w:World}(h:WrS B wb st v w)(hr:aO 1 dD (cE wb v) w vs ts)(hf:eE st ts):
  Calls Tryz.prog 67 #[.pointer (some ⟨wb,0,none⟩),vs] w (WrP B wb v w (.tuple #[]) (st.put ts)):=by
 obtain⟨a,c,rfl,A2,zC,AC⟩:=hr.at;have HA:=zh AC;have HH:=zh h;have HF:=zh hf;clear AC hr h hf;go_enter Tryz.func67,Tryz.ntmps67;go_wp2_with fail;go_loopw [8] (fun iv wr=>∃(q:Nat)(v':Value),q<=ts.length/\iv=.int .i64 (q:Int)/\Hid (WrS B wb (st.put (ts.take q)) v' wr)/\Hid (Ext wb v w v' wr)) (fun iv _=>ts.length-(intOf iv).toNat)
 case atStart=>exact⟨0,v,Nat.zero_le _,rfl,zh (by rw[List.take_zero,kC];exact HH.out),zh (Ext.refl _ _ _)⟩
 case round=>
  obtain⟨q,v1,hq,rfl,HC,HE⟩:=hrel;rename World=>wr
  by_cases rU:q<ts.length
  ·obtain⟨x,hx,tD⟩:=getElem?_of_lt rU;obtain⟨b,o,rfl,wR,cs,⟨rfl,NB⟩,-,hj⟩:=HA.out q x hx;have CF:¬inC wb v b:=fun e=>e.elim wR.1 wR.2;(have p0:wr.cell? ⟨b,o+q,none⟩=some (.string x):=by have h:=HE.out.off.cell CF (hj 0 _ rfl);simpa using h);have HT:=zh (take_put (st:=st) hx)
   have sX:eE (st.put (ts.take q)) [x]:=by
    have h1:=HF.out;rw[<-List.take_append_drop q ts,List.drop_eq_getElem_cons rU] at h1;have e:ts[q]=x:=Option.some.inj (by rw[<-List.getElem?_eq_getElem rU,hx]);rw[e] at h1;exact h1.app.2.cons.1
   generalize st.put (ts.take q)=s1 at HC HT sX;unfold eE at sX;rw[aW] at sX;simp only[tsz] at sX;have U8:=zh sX;obtain⟨bl,ins⟩:=s1;obtain⟨pp,hpp,vE⟩:=HC.out.box;obtain⟨⟨b0,b1,b2⟩,f0,f1,f2⟩:=bx3 vE;clear vE hpp hj wR hx tD sX NB
   cases ins with
   |true=>
    have sT:=zh (wrByte 32 32 rfl HC.out (by have h9:=U8.out;show bl.length+_<=_;simp only at h9;omega));clear HC;go_wp2_with(first|(go_at_call 150;refine(wrString x h3 (by have h9:=U8.out;show(bl++[32]).length+_<=_;rw[List.length_append];simp only[List.length_singleton] at h9 ⊢;omega)).mono ?_;rintro e w4 ⟨v4,rfl,h4,sI⟩;have uH:=zh (uT.out.trans sI);have R8:=zh h4;obtain⟨pp4,KV,AD⟩:=h4.box;obtain⟨⟨d0,d1,d2⟩,g0,g1,g2⟩:=bx3 AD;clear AD KV h4 sI)|(go_at_call 149;refine sT.out.mono ?_;rintro e w3 ⟨v3,rfl,h3,rW⟩;have uT:=zh (HE.out.trans rW);clear rW));exact WW
   |false=>
    have sT:=zh (wrString x HC.out (by have h9:=U8.out;show bl.length+_<=_;simp only at h9;omega));clear HC;go_wp2_with(go_at_call 150;refine sT.out.mono ?_;rintro e w4 ⟨v4,rfl,h4,sI⟩;have uH:=zh (HE.out.trans sI);have R8:=zh h4;obtain⟨pp4,KV,AD⟩:=h4.box;obtain⟨⟨d0,d1,d2⟩,g0,g1,g2⟩:=bx3 AD;clear AD KV h4 sI);exact WW
  have wK:q=ts.length:=YM;have HT:Hid (st.put (ts.take q)=st.put ts):=zh (by rw[wK,List.take_length]);exact XI
theorem row_lit{N:Nat->Prop}{w:World}{b:Nat}{vs:Array Value}{ts:List bA}(hb:w.heap[b]? =some (.cells vs 9))(he:vs.toList=ts.map Value.string)(hN:N b)(hs:∀t∈ts,t.size<=140737488355328)(hl:ts.length<=1000):aO 1 dD N w (.slice (some ⟨b,0,none⟩) ts.length ts.length) ts:=by
 have hv:vs=(ts.map fun t=>[Value.string t]).flatten.toArray:=by
  apply Array.ext';rw[he];clear he hs hl
  induction ts with
  |nil=>rfl
  |cons t r ih=>simp[ih]
 rw[hv] at hb;refine aO.of_block (css:=ts.map fun t=>[Value.string t]) hb hN YR (fun c hc=>?_) (fun i x c hx hc=>?_) rfl YM
 ·obtain⟨t,-,rfl⟩:=List.mem_map.1 hc;rfl
 rw[List.getElem?_map,hx] at hc;cases hc;exact⟨rfl,hs x (List.mem_of_getElem? hx)⟩
theorem eE.each{st:WSt}{ts:List bA}(h:eE st ts):∀t∈ts,t.size<=140737488355328:=fun t ht=>by
 have:=tsz_mem ht;unfold eE at h;omega
theorem wput_lit{B wb:Nat}{st:WSt}{v:Value}{w w1:World}{b:Nat}(vs:Array Value)(ts:List bA)(h:WrS B wb st v w)(hb:Below w.heap.size w w1)(AE:w1.heap[b]? =some (.cells vs 9))(LI:w.heap.size<=b)(he:vs.toList=ts.map Value.string)(hl:ts.length<=1000)(hf:eE st ts):
  Calls Tryz.prog 67 #[.pointer (some ⟨wb,0,none⟩),.slice (some ⟨b,0,none⟩) ts.length ts.length] w1 (WrP B wb v w (.tuple #[]) (st.put ts)):=by
 refine(wput_any (h.later hb) (row_lit AE he (h.new LI) hf.each hl) hf).mono ?_;rintro e w' ⟨v',he,h',hx⟩;exact⟨v',he,h',(Ext.below wb v hb).trans hx⟩
theorem fS{B wb:Nat}{st:WSt}{v:Value}{w:World}{k:Nat}(a:bA)(h:WrS B wb st v w)(hf:eE st [a])(hk:k=w.heap.size:=by first|rfl|simp):
  Calls Tryz.prog 67 #[.pointer (some ⟨wb,0,none⟩),.slice (some ⟨k,0,none⟩) 1 1] (w.alloc (iH a)) (WrP B wb v w (.tuple #[]) (st.put [a])):=by
 subst hk;exact wput_lit #[.string a] [a] h (aA _ _) (bY _ _) (Nat.le_refl _) rfl YR hf
theorem wput2{B wb:Nat}{st:WSt}{v:Value}{w:World}{k:Nat}(a b:bA)(h:WrS B wb st v w)(hf:eE st [a,b])(hk:k=w.heap.size:=by first|rfl|simp):
  Calls Tryz.prog 67 #[.pointer (some ⟨wb,0,none⟩),.slice (some ⟨k,0,none⟩) 2 2] (w.alloc (.cells #[.string a,.string b] 9)) (WrP B wb v w (.tuple #[]) (st.put [a,b])):=by
 subst hk;exact wput_lit #[.string a,.string b] [a,b] h (aA _ _) (bY _ _) (Nat.le_refl _) rfl YR hf
theorem wput3{B wb:Nat}{st:WSt}{v:Value}{w:World}{k:Nat}(a b c:bA)(h:WrS B wb st v w)(hf:eE st [a,b,c])(hk:k=w.heap.size:=by first|rfl|simp):
  Calls Tryz.prog 67 #[.pointer (some ⟨wb,0,none⟩),.slice (some ⟨k,0,none⟩) 3 3] (w.alloc (.cells #[.string a,.string b,.string c] 9)) (WrP B wb v w (.tuple #[]) (st.put [a,b,c])):=by
 subst hk;exact wput_lit #[.string a,.string b,.string c] [a,b,c] h (aA _ _) (bY _ _) (Nat.le_refl _) rfl YR hf
theorem qJ{B wb:Nat}{st:WSt}{v:Value}{w:World}(h:WrS B wb st v w)(hf:st.1.length+3<=140737488355328):
  Calls Tryz.prog 68 #[.pointer (some ⟨wb,0,none⟩)] w (WrP B wb v w (.tuple #[]) st.line):=by
 have HP:=zh (fS dP h (by unfold eE;have:tsz [dP]=2:=rfl;omega))
 have hl:(st.put [dP]).1.length<=st.1.length+2:=by
  have:=emit_size st.2 [dP];have e:tsz [dP]=2:=rfl;show(st.1++kF st.2 [dP]).length<=_;rw[List.length_append];omega
 have zC:(st.put [dP]).1.length+1<=140737488355328:=YM;have HL:Hid (st.line=((st.put [dP]).1++[10],false)):=zh rfl;generalize st.put [dP]=s1 at *;generalize st.line=s2 at *;clear h hf hl;have HL2:=zh zC;clear zC;go_enter Tryz.func68,Tryz.ntmps68;go_wp2_with(first|(go_at_call 149;refine(wrByte 10 10 rfl h3 HL2.out).mono ?_;rintro e w4 ⟨v4,rfl,h4,sI⟩;have uH:=zh (uT.out.trans sI);have R8:=zh h4;obtain⟨pp4,KV,AD⟩:=h4.box;obtain⟨⟨d0,d1,d2⟩,g0,g1,g2⟩:=bx3 AD;clear AD KV h4 sI)|(go_at_call 67;refine HP.out.mono ?_;rintro e w3 ⟨v3,rfl,h3,rW⟩;have uT:=zh rW;clear rW));go_end0;exact⟨v4,rfl,by rw[HL.out];exact(R8.out.flag false).1,uH.out.trans (R8.out.flag false).2⟩
end Go.Proofs.YtiionicikdnnpaaGreatDoor
