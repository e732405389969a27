/- Texts of this seat, joined. -/
import Derived.Test.YtacgopankhpnbaaGreatDoorSA
import Derived.Deep.AppendLies
import Derived.Laws.AppendOwnNone
set_option linter.unusedVariables false
set_option linter.unusedSimpArgs false
namespace Go.Proofs.YtacgopankhpnbaaGreatDoor
open Go.RowKit
def Src(w:World)(src:Value)(m size:Nat)(news:List Value):Prop:=
 (m=0/\news=[]/\∃ad c,src=.slice ad 0 c)\/(0<m/\∃ad c,src=.slice (some ad) m c/\news.length=m*size/\(∀j u,news[j]? =some u->w.cell? (ad.add j)=some u)/\∀u∈news,u.oneCell'=true)
theorem grown_self(w:World)(g:Option Nat):w.grownBy w g:=⟨rfl,rfl,rfl,Nat.le_refl _,fun _ _ _=>rfl⟩
theorem oF{P:Program}{w:World}{o:Oper}{a:Act}{K:Act->World->Prop}{Q:Exit->Act->World->Prop}(s x:Operand)(t:TypeId)
  (ho:o.op=.call {callee:=.builtin .append,args:=#[s,x],argTypes:=#[t,t]})
  (base:Nat) (e:TypeId) (i:TypeInfo) (z:Value) (size bytes:Nat) (ht:P.underlying t=some (.slice e)) (hi:P.info? e=some i) (hz:i.zero=some z)
  (EV:i.size=size) (QG:i.bytes=bytes) (KE:z.cells.size=size) (qX:0<size)
  (g n cap:Nat) (xs:List Value) (hs:a.eval s=.slice (some ⟨g,0,none⟩) n cap) (pP:w.ownsRow base e size (.slice (some ⟨g,0,none⟩) n cap) n xs)
  (src:Value) (m:Nat) (news:List Value) (hx:a.eval x=src) (hsrc:Src w src m size news)
  (h63:n+m<=maxLen) (hbytes:(n+m)*bytes<=140737488355328) (zR:base<=w.heap.size)
  (h:∀g' cap' w',w'.ownsRow base e size (.slice (some ⟨g',0,none⟩) (n+m) cap') (n+m) (xs++news)->w.grownBy w' (some g)->g'<w'.heap.size->K (a.put o.dst (.slice (some ⟨g',0,none⟩) (n+m) cap')) w'):o.wp P a w K Q:=by
 rcases hsrc with⟨rfl,rfl,ad,c,rfl⟩|⟨hm,ad,c,rfl,hl,hnews,h1⟩
 ·rcases pP.2 with⟨h0,-⟩|⟨g1,cap1,cur,e1,CA,B9,hnc,hrest⟩
  ·cases h0
  cases e1;have pT:g<w.heap.size:=(Array.getElem?_eq_some_iff.1 B9).1
  cases ad with
  |none=>
   have sB:(Builtin.append_ #[t,t] o.type #[.slice (some ⟨g,0,none⟩) n cap,.slice none 0 c]).run P w=.ok (.slice (some ⟨g,0,none⟩) n cap) w:=by
    simp[Builtin.append_,run_underlying ht,sizeOf,typeInfo,hi,Builtin.lenOf,Builtin.firstCells,hnc,storeCells]
   unfold Oper.wp;simp[execOp,ho,resolve,invoke,builtin,hs,hx,sB,Result.andThen];exact h g cap w (by simpa using pP) (grown_self w _) pT
  |some ad=>
   obtain⟨w',sB,tM,hgr⟩:=run_append_fits (P:=P) w base t o.type e i size ht hi EV g n cap xs pP ad 0 c [] (by simp) (by simp) (by simp) (by omega);unfold Oper.wp;simp[execOp,ho,resolve,invoke,builtin,hs,hx,sB,Result.andThen];exact h g cap w' (by simpa using tM) hgr (Nat.lt_of_lt_of_le pT hgr.size)
 ·exact wp_append_lies w s x t ho base e i z size bytes ht hi hz EV QG KE qX _ n xs hs pP ad m c news hx hl hnews h1 hm h63 hbytes zR _ rfl (fun g' cap' w' h2 h3 _ h5=>h g' cap' w' h2 h3 h5)
theorem wpList_append_all{P:Program}{w:World}{ops:Array Oper}{rest:List Oper}{o:Oper}{a:Act}{Q:Exit->Act->World->Prop}(hgd:o.guard=none)(s x:Operand)(t:TypeId)
  (ho:o.op=.call {callee:=.builtin .append,args:=#[s,x],argTypes:=#[t,t]})
  (base:Nat) (e:TypeId) (i:TypeInfo) (z:Value) (size bytes:Nat) (ht:P.underlying t=some (.slice e)) (hi:P.info? e=some i) (hz:i.zero=some z)
  (EV:i.size=size) (QG:i.bytes=bytes) (KE:z.cells.size=size) (qX:0<size)
  (g n cap:Nat) (xs:List Value) (hs:a.eval s=.slice (some ⟨g,0,none⟩) n cap) (pP:w.ownsRow base e size (.slice (some ⟨g,0,none⟩) n cap) n xs)
  (src:Value) (m:Nat) (news:List Value) (hx:a.eval x=src) (hsrc:Src w src m size news)
  (h63:n+m<=maxLen) (hbytes:(n+m)*bytes<=140737488355328) (zR:base<=w.heap.size)
  (h:∀g' cap' w',w'.ownsRow base e size (.slice (some ⟨g',0,none⟩) (n+m) cap') (n+m) (xs++news)->w.grownBy w' (some g)->g'<w'.heap.size->wpList P ops Q rest (a.put o.dst (.slice (some ⟨g',0,none⟩) (n+m) cap')) w'):wpList P ops Q (o::rest) a w:=
 wpList_plain hgd fun _ hK=>oF s x t ho base e i z size bytes ht hi hz EV QG KE qX g n cap xs hs pP src m news hx hsrc h63 hbytes zR fun g' cap' w' h2 h3 h5=>hK _ _ (h g' cap' w' h2 h3 h5)
end Go.Proofs.YtacgopankhpnbaaGreatDoor
