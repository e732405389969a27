/- Texts of this seat, joined. -/
import Derived.Test.YtacgopankhpnbaaGreatDoorTQAQ
set_option linter.unusedVariables false
set_option linter.unusedSimpArgs false
namespace Go.Proofs.YtacgopankhpnbaaGreatDoor
open Go.RowKit
def Src(w:World)(src:Value)(m size:Nat)(news:List Value):Prop:=
 (m=0/\news=[]/\∃ad c,src=.slice ad 0 c)\/(0<m/\∃ad c,src=.slice (some ad) m c/\news.length=m*size/\(∀j u,news[j]? =some u->w.cell? (ad.add j)=some u)/\∀u∈news,u.oneCell'=true)
theorem grown_self(w:World)(g:Option Nat):w.grownBy w g:=⟨rfl,rfl,rfl,Nat.le_refl _,fun _ _ _=>rfl⟩
theorem wp_append_all{P:Program}{w:World}{o:Oper}{a:Act}{K:Act->World->Prop}{Q:Exit->Act->World->Prop}(s x:Operand)(t:TypeId)
  (ho:o.op=.call {callee:=.builtin .append,args:=#[s,x],argTypes:=#[t,t]})
  (base:Nat) (e:TypeId) (i:TypeInfo) (z:Value) (size bytes:Nat) (ht:P.underlying t=some (.slice e)) (hi:P.info? e=some i) (hz:i.zero=some z)
  (I9:i.size=size) (VS:i.bytes=bytes) (J7:z.cells.size=size) (tI:0<size)
  (g n cap:Nat) (xs:List Value) (hs:a.eval s=.slice (some ⟨g,0,none⟩) n cap) (sB:w.ownsRow base e size (.slice (some ⟨g,0,none⟩) n cap) n xs)
  (src:Value) (m:Nat) (news:List Value) (hx:a.eval x=src) (hsrc:Src w src m size news)
  (h63:n+m<=maxLen) (hbytes:(n+m)*bytes<=140737488355328) (DF:base<=w.heap.size)
  (h:∀g' cap' w',w'.ownsRow base e size (.slice (some ⟨g',0,none⟩) (n+m) cap') (n+m) (xs++news)->w.grownBy w' (some g)->g'<w'.heap.size->K (a.put o.dst (.slice (some ⟨g',0,none⟩) (n+m) cap')) w'):o.wp P a w K Q:=by
 rcases hsrc with⟨rfl,rfl,ad,c,rfl⟩|⟨hm,ad,c,rfl,hl,hnews,h1⟩
 ·rcases sB.2 with⟨h0,-⟩|⟨g1,cap1,cur,e1,H6,H5,hnc,hrest⟩
  ·cases h0
  cases e1;have sE:g<w.heap.size:=(Array.getElem?_eq_some_iff.1 H5).1
  cases ad with
  |none=>
   have tW:(Builtin.append_ #[t,t] o.type #[.slice (some ⟨g,0,none⟩) n cap,.slice none 0 c]).run P w=.ok (.slice (some ⟨g,0,none⟩) n cap) w:=by
    simp[Builtin.append_,run_underlying ht,sizeOf,typeInfo,hi,Builtin.lenOf,Builtin.firstCells,hnc,storeCells]
   unfold Oper.wp;simp[execOp,ho,resolve,invoke,builtin,hs,hx,tW,Result.andThen];exact h g cap w (by simpa using sB) (grown_self w _) sE
  |some ad=>
   obtain⟨w',tW,wG,RA⟩:=run_append_fits (P:=P) w base t o.type e i size ht hi I9 g n cap xs sB ad 0 c [] (by simp) (by simp) (by simp) (by omega);unfold Oper.wp;simp[execOp,ho,resolve,invoke,builtin,hs,hx,tW,Result.andThen];exact h g cap w' (by simpa using wG) RA (Nat.lt_of_lt_of_le sE RA.size)
 exact wp_append_lies w s x t ho base e i z size bytes ht hi hz I9 VS J7 tI _ n xs hs sB ad m c news hx hl hnews h1 hm h63 hbytes DF _ rfl (fun g' cap' w' h2 h3 _ h5=>h g' cap' w' h2 h3 h5)
theorem wpList_append_all{P:Program}{w:World}{ops:Array Oper}{rest:List Oper}{o:Oper}{a:Act}{Q:Exit->Act->World->Prop}(hgd:o.guard=none)(s x:Operand)(t:TypeId)
  (ho:o.op=.call {callee:=.builtin .append,args:=#[s,x],argTypes:=#[t,t]})
  (base:Nat) (e:TypeId) (i:TypeInfo) (z:Value) (size bytes:Nat) (ht:P.underlying t=some (.slice e)) (hi:P.info? e=some i) (hz:i.zero=some z)
  (I9:i.size=size) (VS:i.bytes=bytes) (J7:z.cells.size=size) (tI:0<size)
  (g n cap:Nat) (xs:List Value) (hs:a.eval s=.slice (some ⟨g,0,none⟩) n cap) (sB:w.ownsRow base e size (.slice (some ⟨g,0,none⟩) n cap) n xs)
  (src:Value) (m:Nat) (news:List Value) (hx:a.eval x=src) (hsrc:Src w src m size news)
  (h63:n+m<=maxLen) (hbytes:(n+m)*bytes<=140737488355328) (DF:base<=w.heap.size)
  (h:∀g' cap' w',w'.ownsRow base e size (.slice (some ⟨g',0,none⟩) (n+m) cap') (n+m) (xs++news)->w.grownBy w' (some g)->g'<w'.heap.size->wpList P ops Q rest (a.put o.dst (.slice (some ⟨g',0,none⟩) (n+m) cap')) w'):wpList P ops Q (o::rest) a w:=
 wpList_plain hgd fun _ hK=>wp_append_all s x t ho base e i z size bytes ht hi hz I9 VS J7 tI g n cap xs hs sB src m news hx hsrc h63 hbytes DF fun g' cap' w' h2 h3 h5=>hK _ _ (h g' cap' w' h2 h3 h5)
end Go.Proofs.YtacgopankhpnbaaGreatDoor
