/- Texts of this seat, joined. -/
import Derived.Deep.AppendLies
import Derived.Laws.AppendOwnNone
import Derived.Test.YtacgopankhpnbaaGreatDoorKA
namespace Go.Proofs.YtacgopankhpnbaaGreatDoor
open Go.RowKit
def Src(w:World)(src:Value)(m size:Nat)(news:List Value):Prop:=
 (m=0/\news=[]/\∃ad c,src=.slice ad 0 c)\/(0<m/\∃ad c,src=.slice (some ad) m c/\news.length=m*size/\(∀j u,news[j]? =some u->w.cell? (ad.add j)=some u)/\∀u∈news,u.oneCell'=true)
theorem grown_self(w:World)(g:Option Nat):w.grownBy w g:=⟨rfl,rfl,rfl,Nat.le_refl _,fun _ _ _=>rfl⟩
theorem wp_append_all{P:Program}{w:World}{o:Oper}{a:Act}{K:Act->World->Prop}{Q:Exit->Act->World->Prop}(s x:Operand)(t:TypeId)
  (ho:o.op=.call {callee:=.builtin .append,args:=#[s,x],argTypes:=#[t,t]})
  (base:Nat) (e:TypeId) (i:TypeInfo) (z:Value) (size bytes:Nat) (ht:P.underlying t=some (.slice e)) (hi:P.info? e=some i) (hz:i.zero=some z)
  (hsize:i.size=size) (hby:i.bytes=bytes) (hzs:z.cells.size=size) (hsz:0<size)
  (g n cap:Nat) (xs:List Value) (hs:a.eval s=.slice (some ⟨g,0,none⟩) n cap) (hown:w.ownsRow base e size (.slice (some ⟨g,0,none⟩) n cap) n xs)
  (src:Value) (m:Nat) (news:List Value) (hx:a.eval x=src) (hsrc:Src w src m size news)
  (h63:n+m<=maxLen) (hbytes:(n+m)*bytes<=140737488355328) (hbase:base<=w.heap.size)
  (h:∀g' cap' w',w'.ownsRow base e size (.slice (some ⟨g',0,none⟩) (n+m) cap') (n+m) (xs++news)->w.grownBy w' (some g)->g'<w'.heap.size->K (a.put o.dst (.slice (some ⟨g',0,none⟩) (n+m) cap')) w'):o.wp P a w K Q:=by
 rcases hsrc with⟨rfl,rfl,ad,c,rfl⟩|⟨hm,ad,c,rfl,hl,hnews,h1⟩
 ·rcases hown.2 with⟨h0,-⟩|⟨g1,cap1,cur,e1,hg1,hg2,hnc,hrest⟩
  ·cases h0
  cases e1;have hlt:g<w.heap.size:=(Array.getElem?_eq_some_iff.1 hg2).1
  cases ad with
  |none=>
   have hrun:(Builtin.append_ #[t,t] o.type #[.slice (some ⟨g,0,none⟩) n cap,.slice none 0 c]).run P w=.ok (.slice (some ⟨g,0,none⟩) n cap) w:=by
    simp[Builtin.append_,run_underlying ht,sizeOf,typeInfo,hi,Builtin.lenOf,Builtin.firstCells,hnc,storeCells]
   unfold Oper.wp;simp[execOp,ho,resolve,invoke,builtin,hs,hx,hrun,Result.andThen];exact h g cap w (by simpa using hown) (grown_self w _) hlt
  |some ad=>
   obtain⟨w',hrun,hown',hgr⟩:=run_append_fits (P:=P) w base t o.type e i size ht hi hsize g n cap xs hown ad 0 c [] (by simp) (by simp) (by simp) (by omega);unfold Oper.wp;simp[execOp,ho,resolve,invoke,builtin,hs,hx,hrun,Result.andThen];exact h g cap w' (by simpa using hown') hgr (Nat.lt_of_lt_of_le hlt hgr.size)
 ·exact wp_append_lies w s x t ho base e i z size bytes ht hi hz hsize hby hzs hsz _ n xs hs hown ad m c news hx hl hnews h1 hm h63 hbytes hbase _ rfl (fun g' cap' w' h2 h3 _ h5=>h g' cap' w' h2 h3 h5)
theorem wpList_append_all{P:Program}{w:World}{ops:Array Oper}{rest:List Oper}{o:Oper}{a:Act}{Q:Exit->Act->World->Prop}(hgd:o.guard=none)(s x:Operand)(t:TypeId)
  (ho:o.op=.call {callee:=.builtin .append,args:=#[s,x],argTypes:=#[t,t]})
  (base:Nat) (e:TypeId) (i:TypeInfo) (z:Value) (size bytes:Nat) (ht:P.underlying t=some (.slice e)) (hi:P.info? e=some i) (hz:i.zero=some z)
  (hsize:i.size=size) (hby:i.bytes=bytes) (hzs:z.cells.size=size) (hsz:0<size)
  (g n cap:Nat) (xs:List Value) (hs:a.eval s=.slice (some ⟨g,0,none⟩) n cap) (hown:w.ownsRow base e size (.slice (some ⟨g,0,none⟩) n cap) n xs)
  (src:Value) (m:Nat) (news:List Value) (hx:a.eval x=src) (hsrc:Src w src m size news)
  (h63:n+m<=maxLen) (hbytes:(n+m)*bytes<=140737488355328) (hbase:base<=w.heap.size)
  (h:∀g' cap' w',w'.ownsRow base e size (.slice (some ⟨g',0,none⟩) (n+m) cap') (n+m) (xs++news)->w.grownBy w' (some g)->g'<w'.heap.size->wpList P ops Q rest (a.put o.dst (.slice (some ⟨g',0,none⟩) (n+m) cap')) w'):wpList P ops Q (o::rest) a w:=
 wpList_plain hgd fun _ hK=>wp_append_all s x t ho base e i z size bytes ht hi hz hsize hby hzs hsz g n cap xs hs hown src m news hx hsrc h63 hbytes hbase fun g' cap' w' h2 h3 h5=>hK _ _ (h g' cap' w' h2 h3 h5)
end Go.Proofs.YtacgopankhpnbaaGreatDoor
