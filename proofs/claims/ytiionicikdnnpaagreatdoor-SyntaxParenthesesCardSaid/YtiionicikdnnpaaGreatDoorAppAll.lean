/- Texts of this seat, joined. -/
import Derived.Test.YtiionicikdnnpaaGreatDoorNB
import Derived.Deep.AppendLies
import Derived.Laws.AppendOwnNone
set_option linter.unusedVariables false
set_option linter.unusedSimpArgs false
namespace Go.Proofs.YtiionicikdnnpaaGreatDoor
open Go.RowKit
def Src(w:World)(src:Value)(m size:Nat)(news:List Value):Prop:=
 (m=0/\news=[]/\∃ad c,src=.slice ad 0 c)\/(0<m/\∃ad c,src=.slice (some ad) m c/\news.length=m*size/\(∀j u,news[j]? =some u->w.cell? (ad.add j)=some u)/\∀u∈news,u.oneCell'=true)
theorem grown_self(w:World)(g:Option Nat):w.grownBy w g:=⟨rfl,rfl,rfl,Nat.le_refl _,fun _ _ _=>rfl⟩
theorem wp_append_all{P:Program}{w:World}{o:Oper}{a:Act}{K:Act->World->Prop}{Q:Exit->Act->World->Prop}(s x:Operand)(t:TypeId)
  (ho:o.op=.call {callee:=.builtin .append,args:=#[s,x],argTypes:=#[t,t]})
  (base:Nat) (e:TypeId) (i:TypeInfo) (z:Value) (size bytes:Nat) (ht:P.underlying t=some (.slice e)) (hi:P.info? e=some i) (hz:i.zero=some z)
  (vA:i.size=size) (DS:i.bytes=bytes) (hzs:z.cells.size=size) (sV:0<size)
  (g n cap:Nat) (xs:List Value) (hs:a.eval s=.slice (some ⟨g,0,none⟩) n cap) (pR:w.ownsRow base e size (.slice (some ⟨g,0,none⟩) n cap) n xs)
  (src:Value) (m:Nat) (news:List Value) (hx:a.eval x=src) (MI:Src w src m size news)
  (I4:n+m<=maxLen) (hbytes:(n+m)*bytes<=140737488355328) (yH:base<=w.heap.size)
  (h:∀g' cap' w',w'.ownsRow base e size (.slice (some ⟨g',0,none⟩) (n+m) cap') (n+m) (xs++news)->w.grownBy w' (some g)->g'<w'.heap.size->K (a.put o.dst (.slice (some ⟨g',0,none⟩) (n+m) cap')) w'):o.wp P a w K Q:=by
 rcases MI with⟨rfl,rfl,ad,c,rfl⟩|⟨hm,ad,c,rfl,hl,hnews,h1⟩
 ·rcases pR.2 with⟨h0,-⟩|⟨g1,cap1,cur,e1,DQ,xT,hnc,hrest⟩
  ·cases h0
  cases e1;have qA:g<w.heap.size:=(Array.getElem?_eq_some_iff.1 xT).1
  cases ad with
  |none=>
   have xO:(Builtin.append_ #[t,t] o.type #[.slice (some ⟨g,0,none⟩) n cap,.slice none 0 c]).run P w=.ok (.slice (some ⟨g,0,none⟩) n cap) w:=by
    simp[Builtin.append_,run_underlying ht,sizeOf,typeInfo,hi,Builtin.lenOf,Builtin.firstCells,hnc,storeCells]
   unfold Oper.wp;simp[execOp,ho,resolve,invoke,builtin,hs,hx,xO,Result.andThen];exact h g cap w (by simpa using pR) (grown_self w _) qA
  |some ad=>
   obtain⟨w',xO,uS,hgr⟩:=run_append_fits (P:=P) w base t o.type e i size ht hi vA g n cap xs pR ad 0 c [] (by simp) (by simp) (by simp) (by omega);unfold Oper.wp;simp[execOp,ho,resolve,invoke,builtin,hs,hx,xO,Result.andThen];exact h g cap w' (by simpa using uS) hgr (Nat.lt_of_lt_of_le qA hgr.size)
 exact wp_append_lies w s x t ho base e i z size bytes ht hi hz vA DS hzs sV _ n xs hs pR ad m c news hx hl hnews h1 hm I4 hbytes yH _ rfl (fun g' cap' w' h2 h3 _ h5=>h g' cap' w' h2 h3 h5)
theorem wpList_append_all{P:Program}{w:World}{ops:Array Oper}{rest:List Oper}{o:Oper}{a:Act}{Q:Exit->Act->World->Prop}(hgd:o.guard=none)(s x:Operand)(t:TypeId)
  (ho:o.op=.call {callee:=.builtin .append,args:=#[s,x],argTypes:=#[t,t]})
  (base:Nat) (e:TypeId) (i:TypeInfo) (z:Value) (size bytes:Nat) (ht:P.underlying t=some (.slice e)) (hi:P.info? e=some i) (hz:i.zero=some z)
  (vA:i.size=size) (DS:i.bytes=bytes) (hzs:z.cells.size=size) (sV:0<size)
  (g n cap:Nat) (xs:List Value) (hs:a.eval s=.slice (some ⟨g,0,none⟩) n cap) (pR:w.ownsRow base e size (.slice (some ⟨g,0,none⟩) n cap) n xs)
  (src:Value) (m:Nat) (news:List Value) (hx:a.eval x=src) (MI:Src w src m size news)
  (I4:n+m<=maxLen) (hbytes:(n+m)*bytes<=140737488355328) (yH:base<=w.heap.size)
  (h:∀g' cap' w',w'.ownsRow base e size (.slice (some ⟨g',0,none⟩) (n+m) cap') (n+m) (xs++news)->w.grownBy w' (some g)->g'<w'.heap.size->wpList P ops Q rest (a.put o.dst (.slice (some ⟨g',0,none⟩) (n+m) cap')) w'):wpList P ops Q (o::rest) a w:=
 wpList_plain hgd fun _ hK=>wp_append_all s x t ho base e i z size bytes ht hi hz vA DS hzs sV g n cap xs hs pR src m news hx MI I4 hbytes yH fun g' cap' w' h2 h3 h5=>hK _ _ (h g' cap' w' h2 h3 h5)
end Go.Proofs.YtiionicikdnnpaaGreatDoor
