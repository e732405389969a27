/- Texts of this seat, joined. -/
import Derived.Deep.RegionHeld3
import Derived.Test.YtacgopankhpnbaaGreatDoorKL
namespace Go.Proofs.YtacgopankhpnbaaGreatDoor
set_option maxHeartbeats 4000000
set_option maxRecDepth 100000
open Go.RowKit
structure Boxes (vi vs:Value) (out:ByteArray) (bw bi bm ps pg pv:Nat) (w:World):Prop where
 st:w.heap[ps]? =some (.cells #[.map (some bm)] 192)
 gr:w.heap[pg]? =some (cD vi vs out bw bi)
 fn:w.heap[pv]? =some (.cells #[.func (.func 119) #[] #[.pointer (some ⟨ps,0,none⟩),.pointer (some ⟨pg,0,none⟩),.pointer (some ⟨pv,0,none⟩)]] 97)
structure Circ (L:List (Value×Stp)) (vi vs:Value) (out:ByteArray) (bw bi bm ps pg pv nw:Nat) (w:World) (st:fD):Prop where
 boxes:Boxes vi vs out bw bi bm ps pg pv w
 stps:oY w vs L
 wr:bD eZ vInt w bw nw (kZ (L.map (·.2)))
 ne:bw≠bm
 marks:∃n m,bD kInt vInt w bm n m/\n+pot st L.length<=1000000/\∀i:Nat,(m i).getD 0=st i
section
variable {L:List (Value×Stp)} {vi vs:Value} {out:ByteArray} {bw bi bm ps pg pv nw:Nat} {w w':World} {st st':fD}
theorem Circ.isMap(h:Circ L vi vs out bw bi bm ps pg pv nw w st):dE w bm:=by obtain⟨n,m,h1,-⟩:=h.marks;exact dE.of h1
theorem Circ.later(h:Circ L vi vs out bw bi bm ps pg pv nw w st)(hb:Below w.heap.size w w'):Circ L vi vs out bw bi bm ps pg pv nw w' st:=by
 obtain⟨n,m,h1,h2,h3⟩:=h.marks;have hx:∀{k:Nat}{o:Obj},w.heap[k]? =some o->w'.heap[k]? =some o:=fun hk=>(hb.block _ (Array.getElem?_eq_some_iff.1 hk).1).trans hk;exact⟨⟨hx h.boxes.st,hx h.boxes.gr,hx h.boxes.fn⟩,h.stps.later hb,h.wr.later hb,h.ne,n,m,h1.later hb,h2,h3⟩
theorem Circ.cells(h:Circ L vi vs out bw bi bm ps pg pv nw w st):w.cell? ⟨ps,0,none⟩=some (.map (some bm))/\
  (w.cell? ⟨pg,0,none⟩=some vi/\w.cell? ⟨pg,1,none⟩=some vs/\w.cell? ⟨pg,2,none⟩=some (.string out)/\w.cell? ⟨pg,3,none⟩=some (.map (some bw))/\w.cell? ⟨pg,4,none⟩=some (.map (some bi)))/\
  w.cell? ⟨pv,0,none⟩=some (.func (.func 119) #[] #[.pointer (some ⟨ps,0,none⟩),.pointer (some ⟨pg,0,none⟩),.pointer (some ⟨pv,0,none⟩)]):=
 ⟨box1 h.boxes.st,box5 h.boxes.gr,box1 h.boxes.fn⟩
theorem nat_wf{i:Nat}(h:i<9223372036854775808):(Lit.int .i64 (i:Int)).wf=true:=by
 have:decide (IntKind.i64.min<=(i:Int))=true/\decide ((i:Int)<=IntKind.i64.max)=true:=⟨decide_eq_true (by show(-9223372036854775808:Int)<=_;omega),decide_eq_true (by show _<=(9223372036854775807:Int);omega)⟩;simp only[Lit.wf,this.1,this.2,Bool.and_self]
theorem wf1:(Lit.int .i64 1).wf=true:=vV
theorem wf2:(Lit.int .i64 2).wf=true:=vV
theorem Circ.look(h:Circ L vi vs out bw bi bm ps pg pv nw w st){i:Nat}(hi:i<9223372036854775808):(Instr.lookup 192 (.map (some bm)) (.int .i64 i) false).run Tryz.prog w=.ok (.int .i64 (st i)) w:=by
 obtain⟨n,m,h1,-,h3⟩:=h.marks;have:=h1.look Tryz.underlying192 (x:=(i:Int)) (nat_wf hi);rw[show(m i).getD vInt.zero=st i from h3 i] at this;exact this
open Classical in
theorem Circ.set(h:Circ L vi vs out bw bi bm ps pg pv nw w st){i:Nat}{x:Int}(hi:i<L.length)(hx:(st i=0/\x=1)\/(st i=1/\x=2))(hl:L.length<=1000000):
  ∃w',(Instr.mapUpdate 192 (.map (some bm)) (.int .i64 i) (.int .i64 x)).run Tryz.prog w=.ok () w'/\Circ L vi vs out bw bi bm ps pg pv nw w' (kH st i x)/\bU bm w w':=by
 obtain⟨n,m,h1,h2,h3⟩:=h.marks;have hp:=pot_mark hx L.length hi;obtain⟨w',hrun,hm',hg⟩:=h1.store Tryz.underlying192 wK (x:=(i:Int)) (nat_wf vT) (y:=x) (by rcases hx with⟨-,rfl⟩|⟨-,rfl⟩;exact wf1;exact wf2);have ho:=iX hg;have hM:=h.isMap;refine⟨w',hrun,⟨⟨hM.box ho h.boxes.st,hM.box ho h.boxes.gr,hM.box ho h.boxes.fn⟩,h.stps.onlyMap hM ho,h.wr.of_block (ho.block _ h.wr.lt h.ne),h.ne,n+1,_,hm',vT,fun j=>?_⟩,ho⟩;by_cases hj:j=i
 ·subst hj;simp[kH]
 ·have:¬(j:Int)=i:=vT;simp only[this,if_false,kH,hj];exact h3 j
abbrev visitCap(ps pg pv:Nat):Array Value:=#[.pointer (some ⟨ps,0,none⟩),.pointer (some ⟨pg,0,none⟩),.pointer (some ⟨pv,0,none⟩)]
theorem enters_visit:∀args w,(callFunc 119 args).run Tryz.prog w=.ok (.enter 119 args) w:=enters_of Tryz.func119 vU rfl
def VisitPost(L:List (Value×Stp))(vi vs:Value)(out:ByteArray)(bw bi bm ps pg pv nw:Nat)(w:World)(r:fD×Bool)(e:Ending)(w':World):Prop:=
 e=.returned (.bool r.2)/\Circ L vi vs out bw bi bm ps pg pv nw w' r.1/\bU bm w w'
def VisitOk(L:List (Value×Stp))(vi vs:Value)(out:ByteArray)(bw bi bm ps pg pv nw f:Nat):Prop:=
 ∀(w:World)(st:fD)(i:Nat),Circ L vi vs out bw bi bm ps pg pv nw w st->i<L.length->kN st L.length<f->
  Calls Tryz.prog 119 #[.int .i64 i,.pointer (some ⟨ps,0,none⟩),.pointer (some ⟨pg,0,none⟩),.pointer (some ⟨pv,0,none⟩)] w (VisitPost L vi vs out bw bi bm ps pg pv nw w (gD (bK (L.map (·.2))) f st i))
theorem visit_search{f:Nat}(ih:VisitOk L vi vs out bw bi bm ps pg pv nw f){l:List Nat}{v:Value}(hl:∀j,j∈l->j<L.length)(h:Circ L vi vs out bw bi bm ps pg pv nw w st)(hI:gZ w v (bI l))(hz:kN st L.length<f):
  Calls Tryz.prog 61 #[v,.func (.func 119) #[] (visitCap ps pg pv)] w (VisitPost L vi vs out bw bi bm ps pg pv nw w (lD (gD (bK (L.map (·.2))) f) st l)):=by
 refine(qR _ _ (gD (bK (L.map (·.2))) f) l v (fun W s=>Circ L vi vs out bw bi bm ps pg pv nw W s/\bU bm w W/\kN s L.length<f) w st ⟨h,bU.refl _ _,hz⟩ ⟨fun W s hs=>hI.onlyMap h.isMap hs.2.1,enters_visit,fun x hx W s hs=>?_⟩).mono ?_
 ·refine(ih W s x hs.1 (hl x hx) hs.2.2).mono ?_;rintro e W' ⟨rfl,h1,h2⟩;exact⟨rfl,h1,hs.2.1.trans h2,Nat.lt_of_le_of_lt (visit_zeros _ _ _ _ _) hs.2.2⟩
 ·rintro e W' ⟨rfl,h1,h2,-⟩;exact⟨rfl,h1,h2⟩
theorem needsAt_of{y:Value×Stp}{i:Nat}(hy:L[i]? =some y):bK (L.map (·.2)) i=fB (L.map (·.2)) y.2:=by
 unfold bK;rw[List.getElem?_map,hy];rfl
theorem visit_seen{needs:Nat->List Nat}{f i:Nat}(h:st i≠0):gD needs (f+1) st i=(st,decide (st i=1)):=by rw[gD,if_pos h]
theorem visit_true{needs:Nat->List Nat}{f i:Nat}(h:st i=0)(h2:(lD (gD needs f) (kH st i 1) (needs i)).2=true):gD needs (f+1) st i=((lD (gD needs f) (kH st i 1) (needs i)).1,true):=by
 rw[gD,if_neg (by simp[h]),if_pos h2]
theorem visit_false{needs:Nat->List Nat}{f i:Nat}(h:st i=0)(h2:(lD (gD needs f) (kH st i 1) (needs i)).2=false):gD needs (f+1) st i=(kH (lD (gD needs f) (kH st i 1) (needs i)).1 i 2,false):=by
 rw[gD,if_neg (by simp[h]),if_neg (by simp[h2])]
end
theorem visit_any(L:List (Value×Stp))(vi vs:Value)(out:ByteArray)(bw bi bm ps pg pv nw:Nat)(hL:L.length<=1000000)(hs:∀y,y∈L->y.2.src.length<=1000000):∀f,VisitOk L vi vs out bw bi bm ps pg pv nw f
 |0=>fun w st i _ _ h=>absurd h vT
 |f+1=>by
  have ih:=zh (visit_any L vi vs out bw bi bm ps pg pv nw hL hs f);intro w st i h hi hz;have hl:=h.look (i:=i) vT;obtain⟨c0,-,-⟩:=h.cells;by_cases h0:st i=0
  ·obtain⟨w1,hu,h1,ho1⟩:=h.set (i:=i) (x:=1) hi (.inl ⟨h0,rfl⟩) hL;obtain⟨y,hy,hym⟩:=getElem?_of_lt hi;have HM:=zh (kG st i 1);have hz1:=zeros_mark h0 L.length hi;have hz2:kN (kH st i 1) L.length<f:=vT;have HZ:=zh hz2;have HV0:=zh h0;have HN:=zh (needs_any (L.map (·.2)) vi vs out bw bi nw L i y w1.drew (h1.later (Below.refl _ _).drew).stps hy (h1.later (Below.refl _ _).drew).wr (hs y hym));rw[<-needsAt_of hy] at HN;have HC1:=zh h1;have HO1:=zh ho1;rw[h0] at hl
   have HR:Hid (∀v w2,Below w1.heap.size w1 w2->gZ w2 v (bI (bK (L.map (·.2)) i))->Calls Tryz.prog 61 #[v,.func (.func 119) #[] (visitCap ps pg pv)] w2 (VisitPost L vi vs out bw bi bm ps pg pv nw w2 (lD (gD (bK (L.map (·.2))) f) (kH st i 1) (bK (L.map (·.2)) i)))):=
    zh fun v w2 hb hI=>visit_search ih.out (fun j hj=>by have:=oO hj;simpa using this) (HC1.out.later hb) hI HZ.out
   have HK:=zh (oW (lF (bK (L.map (·.2))) f) (bK (L.map (·.2)) i) (kH st i 1) i (by rw[HM.out];decide));rw[HM.out] at HK;have HT:=zh (fun h2=>visit_true (needs:=bK (L.map (·.2))) (f:=f) HV0.out h2);have HF:=zh (fun h2=>visit_false (needs:=bK (L.map (·.2))) (f:=f) HV0.out h2);generalize lD (gD (bK (L.map (·.2))) f) (kH st i 1) (bK (L.map (·.2)) i)=r at HR HK HT HF;obtain⟨st2,q⟩:=r;have HE:=zh HC1.out.cells.2;obtain⟨⟨g0,g1,g2,g3,g4⟩,g5⟩:=HE.out;generalize gD (bK (L.map (·.2))) (f+1) st i=V at HT HF ⊢;generalize bK (L.map (·.2)) i=l at HN HR;clear h h0 hy hym h1 ho1 hz hz1 hz2 HM HV0 HZ ih hs
   cases q with
   |true=>
    have HV:=zh (HT.out rfl);clear HT HF;go_enter Tryz.func119,Tryz.ntmps119;go_wp2_with fail;clear hl hu c0
    go_region_held3 (fun W=>(W.cell? ⟨pg,0,none⟩=some vi/\W.cell? ⟨pg,1,none⟩=some vs/\W.cell? ⟨pg,2,none⟩=some (.string out)/\W.cell? ⟨pg,3,none⟩=some (.map (some bw))/\W.cell? ⟨pg,4,none⟩=some (.map (some bi)))/\W.cell? ⟨pv,0,none⟩=some (.func (.func 119) #[] #[.pointer (some ⟨ps,0,none⟩),.pointer (some ⟨pg,0,none⟩),.pointer (some ⟨pv,0,none⟩)]))
     (first|(with_reducible exact HE.out)|(with_reducible exact HE2.out)|(with_reducible exact HE3.out)|go_keep)
     (first|(go_at_call 67;(with_reducible refine HN.out.mono ?_);rintro e w2 ⟨v,rfl,hI,-,hb⟩;have HB:Hid (Below w1.heap.size w1 w2):=zh ((Below.refl _ w1).drew.trans hb);have HE2:=zh (HC1.out.later HB.out).cells.2;have HI:=zh hI;clear hI hb)|(have _g:=HB;go_at_call 61;(with_reducible refine(HR.out v w2 HB.out HI.out).mono ?_);rintro e w3 ⟨rfl,hc3,ho3⟩;have HE3:=zh hc3.cells.2;have HC3:=zh hc3;have HO3:=zh ho3;clear hc3 ho3))
    all_goals
     go_wp2_with fail;go_ret;refine⟨by rw[HV.out];rfl,by rw[HV.out];exact HC3.out,?_⟩;exact(HO1.out.trans (bU.of_below HB.out)).trans HO3.out
   |false=>
    have HV:=zh (HF.out rfl);clear HT HF;go_enter Tryz.func119,Tryz.ntmps119;go_wp2_with fail;clear hl hu c0
    go_region_held3 (fun W=>(W.cell? ⟨pg,0,none⟩=some vi/\W.cell? ⟨pg,1,none⟩=some vs/\W.cell? ⟨pg,2,none⟩=some (.string out)/\W.cell? ⟨pg,3,none⟩=some (.map (some bw))/\W.cell? ⟨pg,4,none⟩=some (.map (some bi)))/\W.cell? ⟨pv,0,none⟩=some (.func (.func 119) #[] #[.pointer (some ⟨ps,0,none⟩),.pointer (some ⟨pg,0,none⟩),.pointer (some ⟨pv,0,none⟩)]))
     (first|(with_reducible exact HE.out)|(with_reducible exact HE2.out)|(with_reducible exact HE3.out)|go_keep)
     (first|(go_at_call 67;(with_reducible refine HN.out.mono ?_);rintro e w2 ⟨v,rfl,hI,-,hb⟩;have HB:Hid (Below w1.heap.size w1 w2):=zh ((Below.refl _ w1).drew.trans hb);have HE2:=zh (HC1.out.later HB.out).cells.2;have HI:=zh hI;clear hI hb)|(have _g:=HB;go_at_call 61;(with_reducible refine(HR.out v w2 HB.out HI.out).mono ?_);rintro e w3 ⟨rfl,hc3,ho3⟩;have HE3:=zh hc3.cells.2;have HC3:=zh hc3;have HO3:=zh ho3;clear hc3 ho3))
    all_goals
     obtain⟨w4,hu4,h4,ho4⟩:=HC3.out.set (i:=i) (x:=2) hi (.inr ⟨HK.out,rfl⟩) hL;obtain⟨d0,-,-⟩:=HC3.out.cells;have HC4:=zh h4;have HO4:=zh ho4;clear h4 ho4;go_wp2_with fail;go_ret;refine⟨by rw[HV.out];rfl,by rw[HV.out];exact HC4.out,?_⟩;exact((HO1.out.trans (bU.of_below HB.out)).trans HO3.out).trans HO4.out
  ·have HV:=zh (visit_seen (needs:=bK (L.map (·.2))) (f:=f) h0);have HC:=zh h;have hb0:(st i==0)=false:=beq_eq_false_iff_ne.2 h0;(have hb1:(st i != 0)=true:=by rw[bne_iff_ne];exact h0);rw[HV.out];unfold VisitPost;generalize hx:st i=x at hl hb0 hb1 ⊢;clear hx h h0 hz HV ih hs;go_enter Tryz.func119,Tryz.ntmps119;go_wp2_with fail;go_ret;exact⟨aE (by rw[Bool.eq_iff_iff];simp),HC.out,bU.refl _ _⟩
end Go.Proofs.YtacgopankhpnbaaGreatDoor
namespace Go.Proofs.YtacgopankhpnbaaGreatDoor
set_option maxHeartbeats 2000000
set_option maxRecDepth 100000
open Go.RowKit
theorem join_any(l:List ByteArray)(v:Value)(w:World)(hv:Strs w v l)(hlen:(Lib.join (l.map (·.data.toList)) []).length<=140737488355328)(hl:l.length<=140737488355328):
  Calls Tryz.prog 79 #[v,.string ⟨#[]⟩] w fun e w'=>e=.returned (.string (joinB l))/\Below w.heap.size w w':=by
 rcases hv.cases with⟨rfl,a,c,rfl⟩|⟨b,o,c,rfl,h0,h1,h2,hb,hc⟩
 ·refine(Tryz.strings_Join_none a c ⟨#[]⟩ w).mono ?_;rintro e w' ⟨rfl,rfl⟩;exact⟨rfl,Below.refl _ _⟩
 ·exact Tryz.strings_Join b o c l ⟨#[]⟩ w (fun j x hx=>(hc j x hx).1) hb hl h1 hlen
theorem write_join(b:Nat)(saw:List ByteArray)(vs clk ord nxt:Value)(u0 u1 kind:Int)(vf:Value)(tn:ByteArray)(sorted:Bool)(w:World)(hs:Sbx w b vs clk ord nxt u0 u1)(hsaw:Strs w vs saw)
  (hk:kind=0\/kind=1) (hf:∃a n c,vf=.slice a n c) (hlen:(Lib.join (saw.map (·.data.toList)) []).length<=140737488355328) (hl:saw.length<=140737488355328):
  Calls Tryz.prog 52 #[.pointer (some ⟨b,0,none⟩),.agg #[.int .i64 kind,vf,.string tn,.bool sorted]] w fun e w'=>
   e=.returned (.tuple #[.string (joinB saw),.int .i64 0])/\Sbx w' b vs clk ord nxt u0 u1/\bU b w w':=by
 obtain⟨a,n,c,rfl⟩:=hf;have c0:=hs.cell 0;have hbl:=hs.lt;simp only[List.getElem?_toArray,List.getElem?_cons_zero] at c0;have HS:=zh hs;clear hs;have HJ:Hid (∀W,Below w.heap.size w W->Calls Tryz.prog 79 #[vs,.string ⟨#[]⟩] W fun e w'=>e=.returned (.string (joinB saw))/\Below W.heap.size W w'):=zh fun W hb=>join_any saw vs W (hsaw.later hb) hlen hl;obtain⟨a1,c1,hv1,-⟩:=id hsaw;clear hsaw hlen hl;subst hv1;rcases hk with rfl|rfl
 all_goals
  go_enter Tryz.func52,Tryz.ntmps52;go_wp2_with fail;refine(HJ.out _ (aA _ _)).mono ?_;rintro e w' ⟨rfl,hb⟩;have hb2:=aB (aA _ _) hb;go_wp2_with fail;go_ret2;exact⟨rfl,HS.out.later hb2,bU.of_below hb2⟩
theorem write_sort(b:Nat)(text:ByteArray)(vs clk ord nxt:Value)(u0 u1:Int)(vf:Value)(tn:ByteArray)(sorted:Bool)(w:World)(hG:bV w)(hs:Sbx w b vs clk ord nxt u0 u1)(hsaw:Strs w vs [text])
  (hf:∃a n c,vf=.slice a n c) (ht:text.size<=1000000) (hlen:(jD (cK text)).length<=140737488355328):
  Calls Tryz.prog 52 #[.pointer (some ⟨b,0,none⟩),.agg #[.int .i64 3,vf,.string tn,.bool sorted]] w fun e w'=>
   e=.returned (.tuple #[.string (rowsB (cK text)),.int .i64 0])/\Sbx w' b vs clk ord nxt u0 u1/\bU b w w':=by
 obtain⟨a,n,c,rfl⟩:=hf;have c0:=hs.cell 0;have hbl:=hs.lt;simp only[List.getElem?_toArray,List.getElem?_cons_zero] at c0;have HS:=zh hs;clear hs;rcases hsaw.cases with⟨h,-⟩|⟨bl,o,c1,rfl,h0,h1,h2,hb,hc⟩
 ·cases h
 have c2:=(hc 0 text rfl).1;simp only[Nat.add_zero,List.length_cons,List.length_nil,Nat.zero_add] at c2 c0 h1 ⊢;have hb2:bl<w.heap.size:=hb;have HSo:Hid (∀W,Below w.heap.size w W->Calls Tryz.prog 81 #[.string text] W fun e w'=>∃v,e=.returned v/\Strs w' v (cK text)/\Below W.heap.size W w'):=zh fun W hb=>sorted_any text W (hG.later hb) ht;have HR:Hid (∀W v,Strs W v (cK text)->Calls Tryz.prog 80 #[v] W fun e w'=>e=.returned (.string (rowsB (cK text)))/\Below W.heap.size W w'):=zh fun W v h=>rows_any _ v W h hlen;clear hsaw hc hG hb hlen;go_enter Tryz.func52,Tryz.ntmps52;go_wp2_with fail;refine(HSo.out _ (aA _ _)).mono ?_;rintro e w1 ⟨v,rfl,hv,hb1⟩;have HV:=zh hv;obtain⟨a3,c3,hv3,-⟩:=hv;subst hv3;go_wp2_with fail;refine(HR.out _ _ HV.out).mono ?_;rintro e w2 ⟨rfl,hb2⟩;have hbb:=aB (aB (aA _ _) hb1) hb2;go_wp2_with fail;go_ret2;exact⟨rfl,HS.out.later hbb,bU.of_below hbb⟩
theorem Sbx.saw0{w:World}{b:Nat}{saw clk ord nxt:Value}{u0 u1:Int}(h:Sbx w b saw clk ord nxt u0 u1)(x:Value):Sbx (w.setCell ⟨b,0,none⟩ x) b x clk ord nxt u0 u1:=by
 unfold Sbx at h ⊢;exact tS
theorem strs_setCell{w:World}{b o:Nat}{x v:Value}{l:List ByteArray}(h:Strs w v l)(hb:∀a n c,v=.slice (some a) n c->a.block≠b):Strs (w.setCell ⟨b,o,none⟩ x) v l:=by
 obtain⟨a,c,hv,h1,h2,h3⟩:=h;refine⟨a,c,hv,h1,h2,fun hne=>?_⟩;obtain⟨b',o',ha,hc⟩:=h3 hne;refine⟨b',o',ha,fun i x' hx=>?_⟩;obtain⟨cs,e,hl,hj⟩:=hc i x' hx;have hbb:=hb ⟨b',o',none⟩ l.length c (by rw[hv,ha]);exact⟨cs,e,hl,fun j u hu=>(World.cell?_of_block (w:=w) (Below.heap_setCell _ _ _ _ hbb)).trans (hj j u hu)⟩
theorem write_list(b:Nat)(out:List ByteArray)(vs clk ord nxt:Value)(u0 u u':Int)(vf:Value)(tn:ByteArray)(sorted:Bool)(w:World)(hs:Sbx w b vs clk ord nxt u0 u)
  (hf:∃a n c,vf=.slice a n c)
  (hlist:∀W,Below w.heap.size w W->Calls Tryz.prog 87 #[.pointer (some ⟨b,0,none⟩),vf,.bool sorted] W fun e w'=>∃v,e=.returned v/\Strs w' v out/\(∀a n c,v=.slice (some a) n c->W.heap.size<=a.block)/\Sbx w' b vs clk ord nxt u0 u'/\bU b W w')
  (hlen:(jD out).length<=140737488355328):
  Calls Tryz.prog 52 #[.pointer (some ⟨b,0,none⟩),.agg #[.int .i64 2,vf,.string tn,.bool sorted]] w fun e w'=>
   e=.returned (.tuple #[.string (rowsB out),.int .i64 0])/\Sbx w' b (.slice none 0 0) clk ord nxt u0 u'/\bU b w w':=by
 obtain⟨a,n,c,rfl⟩:=hf;have hbl:=hs.lt;have HL:=zh hlist;have HR:Hid (∀W v,Strs W v out->Calls Tryz.prog 80 #[v] W fun e w'=>e=.returned (.string (rowsB out))/\Below W.heap.size W w'):=zh fun W v h=>rows_any _ v W h hlen;clear hlist hs hlen;go_enter Tryz.func52,Tryz.ntmps52;go_wp2_with fail;refine(HL.out _ (aA _ _)).mono ?_;rintro e w1 ⟨v,rfl,hv,hvb,hsb,hon⟩;have HV:=zh hv;have HSB:=zh hsb;have HVB:=zh hvb;have c0:=hsb.cell 0;have f0:=hsb.frozen 0;simp only[List.getElem?_toArray,List.getElem?_cons_zero] at c0;obtain⟨a3,c3,hv3,-⟩:=id hv;subst hv3;clear hv hsb hvb;go_wp2_with fail;refine(HR.out _ _ (strs_setCell HV.out (fun a n c e=>by have:=HVB.out a n c e;simp at this;omega))).mono ?_;rintro e w2 ⟨rfl,hb2⟩;go_wp2_with fail;go_ret2;refine⟨rfl,(HSB.out.saw0 _).later hb2,?_⟩;exact((bU.of_below (aA _ _)).trans hon).trans ((bU.setCell w1).trans (bU.of_below hb2))
theorem wireInt_size(n:Int)(h0: -9223372036854775808<=n)(h1:n<=9223372036854775807):(pB n).size<=100:=by
 have:=Lib.itoa_length_le n h0 h1;show(Lib.itoa n++[59]).toArray.size<=100;simp;omega
theorem write_stamp(b:Nat)(text:ByteArray)(clock:List Int)(vs clk ord nxt:Value)(u0 u1:Int)(vf:Value)(tn:ByteArray)(sorted:Bool)(w:World)(hG:bV w)(hs:Sbx w b vs clk ord nxt u0 u1)(hsaw:Strs w vs [text])
  (hsb:∀a n c,vs=.slice (some a) n c->a.block≠b) (hclk:gZ w clk clock) (hf:∃a n c,vf=.slice a n c) (ht:text.size<=1000000) (hu0:0<=u0) (hu1:u0<=4611686018427387904) (hgb:11<=b)
  (hw:∀x,x∈clock->(Lit.int .i64 x).wf=true):
  Calls Tryz.prog 52 #[.pointer (some ⟨b,0,none⟩),.agg #[.int .i64 4,vf,.string tn,.bool sorted]] w fun e w'=>
   e=.returned (.tuple #[.string (stampB text (clock.getD u0.toNat 0)),.int .i64 0])/\Sbx w' b vs clk ord nxt (u0+1) u1/\bU b w w':=by
 obtain⟨a,n,c,rfl⟩:=hf;have c0:=hs.cell 0;have c1:=hs.cell 1;have hbl:=hs.lt;simp only[List.getElem?_toArray,List.getElem?_cons_zero,List.getElem?_cons_succ] at c0 c1;rcases hsaw.cases with⟨h,-⟩|⟨bl,o,cc,rfl,h0,h1,h2,hb,hc⟩
 ·cases h
 have hblb:bl≠b:=hsb ⟨bl,o,none⟩ _ _ rfl;have c2:=(hc 0 text rfl).1;simp only[Nat.add_zero,List.length_cons,List.length_nil,Nat.zero_add] at c2 c0 h1;have hb0:Below w.heap.size w (w.alloc (.cells #[.int .i64 4,.slice a n c,.string tn,.bool sorted] 24)):=aA _ _;have HS0:=zh (hs.later hb0);have HC0:=zh (hclk.later hb0);have HG0:=zh (hG.later hb0);have HO0:=zh (bU.of_below (b:=b) hb0);have d0:=aC hb0 c0;have d1:=aC hb0 c1;have d2:=aC hb0 c2
 have hwx:(Lit.int .i64 (clock.getD u0.toNat 0)).wf=true:=by
  rw[List.getD_eq_getElem?_getD]
  cases hh:clock[u0.toNat]? with
  |none=>rfl
  |some y=>exact hw y (List.mem_of_getElem? hh)
 obtain⟨hx0,hx1⟩:=i64_bounds hwx;obtain⟨ak,ck,hvk,-⟩:=id hclk;subst hvk
 have HN:Hid (∀W,Sbx W b (.slice (some ⟨bl,o,none⟩) 1 cc) (.slice ak clock.length ck) ord nxt u0 u1->gZ W (.slice ak clock.length ck) clock->Calls Tryz.prog 83 #[.pointer (some ⟨b,0,none⟩),.slice ak clock.length ck,.int .i64 0] W fun e w'=>e=.returned (.int .i64 (clock.getD u0.toNat 0))/\Sbx w' b (.slice (some ⟨bl,o,none⟩) 1 cc) (.slice ak clock.length ck) ord nxt (u0+1) u1/\bU b W w'):=
  zh fun W h1 h2=>next0_any b _ _ _ _ u0 u1 clock _ W h1 h2 hu0 hu1
 generalize clock.getD u0.toNat 0=X at HN hwx hx0 hx1 ⊢;have hwz:(pB X).size<=100:=wireInt_size X hx0 hx1;have hwz2:(text++pB X).size<=1000100:=by rw[ByteArray.size_append];omega
 have hn1:¬9223372036854775807<text.size+(pB X).size:=vT;have hn2:¬9223372036854775807<text.size+(pB X).size+1:=vT;clear hc hsaw hclk hs hG c0 c1 c2 hw hwx hb;go_enter Tryz.func52,Tryz.ntmps52;go_wp2_with fail;generalize hW0:w.alloc (.cells #[.int .i64 4,.slice a n c,.string tn,.bool sorted] 24)=W0 at *;clear hW0
 go_region_held3 (fun W=>W.cell? ⟨b,0,none⟩=some (.slice (some ⟨bl,o,none⟩) 1 cc)/\W.cell? ⟨b,1,none⟩=some (.slice ak clock.length ck)/\W.cell? ⟨bl,o,none⟩=some (.string text))
  (first|exact⟨j0,j1,j2⟩|exact⟨k0,k1,k2⟩|exact⟨d0,d1,d2⟩|go_keep)
  (first|(go_at_call 83;refine(HN.out _ (by exact HS0.out) (by exact HC0.out)).mono ?_;rintro e w1 ⟨rfl,hsb1,hon1⟩;have HSB1:=zh hsb1;have HON1:=zh hon1;have k0:w1.cell? ⟨b,0,none⟩=some (.slice (some ⟨bl,o,none⟩) 1 cc):=hsb1.cell 0;have k1:w1.cell? ⟨b,1,none⟩=some (.slice ak clock.length ck):=hsb1.cell 1;have k2:w1.cell? ⟨bl,o,none⟩=some (.string text):=hon1.cell hblb (by exact d2);clear hsb1 hon1)|(go_at_call 82;refine(wireInt_any _ _ (by exact(HG0.out.later (Below.refl _ _).drew).only HON1.out hgb) hx0 hx1).mono ?_;rintro e w2 ⟨rfl,hb2⟩;have j0:=aC hb2 k0;have j1:=aC hb2 k1;have j2:=aC hb2 k2))
 go_wp2_with fail;go_ret2;exact⟨rfl,HSB1.out.later hb2,(HO0.out.drew.trans HON1.out).trans (bU.of_below hb2)⟩
theorem uY{p:Prop}(h:p:=by
 rintro e w' ⟨rfl,hs,ho⟩
 exact⟨_,rfl,hs,⟨⟨none,0,rfl,vZ,vZ,fun h=>absurd rfl h⟩,fun a n c e _=>by simp at e⟩,ho⟩):p:=h
theorem vG{p:Prop}(h:p:=by
 rintro e w' ⟨rfl,hs,ho⟩
 exact⟨vs,rfl,hs,h.hsaw.only ho,ho⟩):p:=h
theorem lW(l:List ByteArray)(B:Nat)(h:∀x,x∈l->x.size<=B):(jD l).length<=l.length*(B+1):=by
 induction l with
 |nil=>simp[jD]
 |cons x l ih=>
  have h1:=ih (fun y hy=>h y (List.mem_cons_of_mem _ hy));have h2:=h x (List.mem_cons_self ..);have e:jD (x::l)=x.data.toList++[10]++jD l:=by simp[jD]
  rw[e];have:x.data.toList.length=x.size:=vZ;simp only[List.length_append,this,List.length_cons,List.length_nil];rw[Nat.add_mul];omega
theorem join_length(l:List ByteArray)(B:Nat)(h:∀x,x∈l->x.size<=B):(Lib.join (l.map (·.data.toList)) []).length<=l.length*B:=by
 have:Lib.join (l.map (·.data.toList)) []=(l.map (·.data.toList)).flatten:=by
  unfold Lib.join
  induction l.map (·.data.toList) with
  |nil=>rfl
  |cons x r ih=>cases r<;>simp_all [List.intercalate,List.intersperse]
 rw[this];clear this
 induction l with
 |nil=>simp
 |cons x l ih=>
  have h1:=ih (fun y hy=>h y (List.mem_cons_of_mem _ hy));have h2:=h x (List.mem_cons_self ..);have:x.data.toList.length=x.size:=vZ;simp only[List.map_cons,List.flatten_cons,List.length_append,this,List.length_cons];rw[Nat.add_mul];omega
theorem oI(order:List Int):∀(f u:Nat)(l:List ByteArray),(eR order f u l).length<=f
 |0,_,_=>by simp[eR]
 |f+1,u,l=>by
  rw[eR];split
  ·simp
  ·have:=oI order f (u+1) (l.eraseIdx (gB (order.getD u 0) l.length));rw[List.length_cons];omega
theorem isName_size{s:ByteArray}(h:fA s=true):s.size<=20:=by
 simp[fA] at h;exact h.2
theorem qB(t:ByteArray)(ht:t.size<=65536):(jD (cK t)).length<=140737488355328:=by
 unfold cK;split
 ·simp[jD]
 ·have hle:=trim_size t;have hcnt:=Lib.countB_le nl vV t.size _ hle;have hl:=linesOf_length t
  have h:=lW (fI (mV t)) 65536 (fun x hx=>by
   have:=splitB_size nl _ _ x (lK hx)
   omega)
  rw[fJ] at h;have:(mV t).length*(65536+1)<=65537*65537:=Nat.mul_le_mul vT vT;omega
def StrsOff(b:Nat)(w:World)(v:Value)(l:List ByteArray):Prop:=Strs w v l/\∀a n c,v=.slice (some a) n c->l≠[]->b<a.block
theorem StrsOff.only{b:Nat}{w w':World}{v:Value}{l:List ByteArray}(h:StrsOff b w v l)(ho:bU b w w'):StrsOff b w' v l:=by
 refine⟨?_,h.2⟩;obtain⟨a,c,hv,h1,h2,h3⟩:=h.1;refine⟨a,c,hv,h1,h2,fun hne=>?_⟩;obtain⟨b',o',ha,hc⟩:=h3 hne;refine⟨b',o',ha,fun i x' hx=>?_⟩;obtain⟨cs,e,hl,hj⟩:=hc i x' hx;exact⟨cs,e,hl,fun j u hu=>ho.cell (Nat.ne_of_gt (h.2 ⟨b',o',none⟩ l.length c (by rw[hv,ha]) hne)) (hj j u hu)⟩
def IntsOff(b:Nat)(w:World)(v:Value)(l:List Int):Prop:=gZ w v l/\∀a n c,v=.slice (some a) n c->l≠[]->a.block≠b
theorem IntsOff.only{b:Nat}{w w':World}{v:Value}{l:List Int}(h:IntsOff b w v l)(ho:bU b w w'):IntsOff b w' v l:=by
 refine⟨?_,h.2⟩;obtain⟨a,c,hv,h1,h2,h3⟩:=h.1;refine⟨a,c,hv,h1,h2,fun hne=>?_⟩;obtain⟨b',o',ha,hc⟩:=h3 hne;refine⟨b',o',ha,fun i x' hx=>?_⟩;obtain⟨cs,e,hl,hj⟩:=hc i x' hx;exact⟨cs,e,hl,fun j u hu=>ho.cell (h.2 ⟨b',o',none⟩ l.length c (by rw[hv,ha]) hne) (hj j u hu)⟩
theorem dS{s:Stp}(h:aP s=true):(∀x,x∈s.src->fA x=true)/\fA s.out=true/\s.src.length<=60/\
  (s.kind=2\/s.kind=1/\s.sorted=false\/(s.kind=0\/s.kind=3\/s.kind=4\/s.kind=5)/\s.src.length=1/\s.sorted=false):=by
 unfold aP at h;split at h
 ·cases h
 ·rename_i h0
  have h0':fA s.out=true/\∀x,x∈s.src->fA x=true:=by
   simp at h0;exact⟨h0.1,fun x hx=>by simpa using h0.2 x hx⟩
  refine⟨h0'.2,h0'.1,?_⟩;split at h
  ·rename_i h2;simp at h;exact⟨h,.inl h2⟩
  ·split at h
   ·rename_i h1;simp at h;exact⟨h.1,.inr (.inl ⟨h1,h.2⟩)⟩
   ·split at h
    ·rename_i h3;simp at h;exact⟨vT,.inr (.inr ⟨h3,h.1,h.2⟩)⟩
    ·cases h
structure WriteIn (s:Stp) (saw:List ByteArray) (clock order:List Int) (b:Nat) (vs clk ord nxt vf:Value) (u0 u1:Int) (w:World):Prop where
 hglob:bV w
 hb:11<=b
 hsbx:Sbx w b vs clk ord nxt u0 u1
 hsaw:StrsOff b w vs saw
 hclk:IntsOff b w clk clock
 hord:IntsOff b w ord order
 hsrc:Strs w vf s.src
 hright:aP s=true
 htexts:∀x,x∈saw->x.size<=65536
 hlen:saw.length=s.src.length
 hu0:0<=u0/\u0<=1152921504606846976
 hu1:0<=u1/\u1<=1152921504606846976
 hcwf:∀x,x∈clock->(Lit.int .i64 x).wf=true
 howf:∀x,x∈order->(Lit.int .i64 x).wf=true
theorem write_any(s:Stp)(saw:List ByteArray)(clock order:List Int)(b:Nat)(vs clk ord nxt vf:Value)(u0 u1:Int)(w:World)(h:WriteIn s saw clock order b vs clk ord nxt vf u0 u1 w)(h5:s.kind≠5):
  Calls Tryz.prog 52 #[.pointer (some ⟨b,0,none⟩),.agg #[.int .i64 s.kind,vf,.string s.out,.bool s.sorted]] w fun e w'=>∃vs',
   e=.returned (.tuple #[.string (aS s saw clock order u0 u1).1,.int .i64 0])/\Sbx w' b vs' clk ord nxt (aS s saw clock order u0 u1).2.2.1 (aS s saw clock order u0 u1).2.2.2/\
   StrsOff b w' vs' (aS s saw clock order u0 u1).2.1/\bU b w w':=by
 obtain⟨hn,hout,hl,hk⟩:=dS h.hright;have hf:∃a n c,vf=.slice a n c:=by obtain⟨a,c,hv,-⟩:=h.hsrc;exact⟨a,_,c,hv⟩
 obtain⟨kind,src,out,sorted⟩:=s;simp only at hn hout hl hk h5 hf ⊢;by_cases k01:kind=0\/kind=1
 ·have e:aS ⟨kind,src,out,sorted⟩ saw clock order u0 u1=(joinB saw,saw,u0,u1):=by simp[aS,k01]
  rw[e];have hj:=join_length saw 65536 h.htexts;have hlen:saw.length<=60:=by have:=h.hlen;simp only at this;omega
  refine(write_join b saw vs clk ord nxt u0 u1 kind vf out sorted w h.hsbx h.hsaw.1 k01 hf (Nat.le_trans hj vT) vT).mono ?_;exact vG
 by_cases k3:kind=3
 ·subst k3;have e:aS ⟨3,src,out,sorted⟩ saw clock order u0 u1=(rowsB (cK (saw.headD ByteArray.empty)),saw,u0,u1):=by simp[aS]
  rw[e]
  obtain⟨t,rfl⟩:∃t,saw=[t]:=by
   have:=h.hlen;simp only at this;have h1:saw.length=1:=vT;exact List.length_eq_one_iff.1 h1
  have ht:=h.htexts t vZ;refine(write_sort b t vs clk ord nxt u0 u1 vf out sorted w h.hglob h.hsbx h.hsaw.1 hf vT (qB t ht)).mono ?_;exact vG
 by_cases k4:kind=4
 ·subst k4;have e:aS ⟨4,src,out,sorted⟩ saw clock order u0 u1=(stampB (saw.headD ByteArray.empty) (clock.getD u0.toNat 0),saw,u0+1,u1):=by simp[aS]
  rw[e]
  obtain⟨t,rfl⟩:∃t,saw=[t]:=by
   have:=h.hlen;simp only at this;have h1:saw.length=1:=vT;exact List.length_eq_one_iff.1 h1
  have ht:=h.htexts t vZ;refine(write_stamp b t clock vs clk ord nxt u0 u1 vf out sorted w h.hglob h.hsbx h.hsaw.1 (fun a n c e=>Nat.ne_of_gt (h.hsaw.2 a n c e vZ)) h.hclk.1 hf vT h.hu0.1 (by have:=h.hu0.2;omega) h.hb h.hcwf).mono ?_;exact vG
 ·have k2:kind=2:=vT;subst k2;have hsz:∀x,x∈src->x.size<=20:=fun x hx=>isName_size (hn x hx);have hsrc:Strs w vf src:=h.hsrc
  cases sorted with
  |true=>
   (have e:aS ⟨2,src,out,true⟩ saw clock order u0 u1=(rowsB (fI src),[],u0,u1):=by simp[aS]);rw[e];have hr:=lW (fI src) 20 (fun x hx=>hsz x (lK hx));rw[fJ] at hr;refine(write_list b (fI src) vs clk ord nxt u0 u1 u1 vf out true w h.hsbx hf (fun W hb=>?_) vT).mono ?_
   ·refine(list_sorted b src vf W (hsrc.later hb) vT).mono ?_;rintro e w' ⟨v,rfl,h1,h2,h3⟩;exact⟨v,rfl,h1,h2,(h.hsbx.later hb).later h3,bU.of_below h3⟩
   ·exact uY
  |false=>
   (have e:aS ⟨2,src,out,false⟩ saw clock order u0 u1=(rowsB (eR order src.length u1.toNat (fI src)),[],u0,u1+src.length):=by simp[aS]);rw[e];have hr:=lW (eR order src.length u1.toNat (fI src)) 20 (fun x hx=>hsz x (lK (pI hx)));have hpl:=oI order src.length u1.toNat (fI src);have hmul:(eR order src.length u1.toNat (fI src)).length*(20+1)<=60*21:=Nat.mul_le_mul vT vT;have hu:=h.hu1;refine(write_list b (eR order src.length u1.toNat (fI src)) vs clk ord nxt u0 u1 (u1+src.length) vf out false w h.hsbx hf (fun W hb=>?_) vT).mono ?_
   ·have hsb:Sbx W b vs clk ord nxt u0 ((u1.toNat:Nat):Int):=(h.hsbx.later hb).cast vT;refine(list_picks b vs clk nxt ord u0 u1.toNat order src vf W hsb (fun W' ho=>(h.hord.only ((bU.of_below hb).trans ho)).1) (hsrc.later hb) vT vT h.howf).mono ?_;rintro e w' ⟨v,rfl,h1,h2,h3,h4⟩;exact⟨v,rfl,h1,h2,h3.cast vT,h4⟩
   ·exact uY
set_option maxHeartbeats 1000000
theorem rM{p:Prop}(h:p:=by
 obtain⟨⟨a1,c1,e1⟩,⟨a2,c2,e2⟩,⟨a3,n3,c3,e3⟩,⟨a4,n4,c4,e4⟩,⟨a5,n5,c5,e5⟩⟩:=nH h
 have HR:Hid (∀W,Below w.heap.size w W->Calls Tryz.prog 24 #[.agg #[.int .i64 s.kind,vf,.string s.out,.bool s.sorted]] W fun e w'=>e=.returned (.bool true)/\Below W.heap.size W w'):=
  zh fun W hb=>hr1▸gE s vf W (h.hsrc.later hb) h.hout
 have HF:Hid (∀W,Below w.heap.size w W->Calls Tryz.prog 51 #[vl] W fun e w'=>e=.returned (.bool true)/\Below W.heap.size W w'):=
  zh fun W hb=>hr2▸gK files vl W (h.hfil.later hb)
 have HFd:Hid (∀W x,Below w.heap.size w W->Calls Tryz.prog 21 #[vl,.string x] W fun e w'=>e=.returned (iD files x)/\Below W.heap.size W w'):=
  zh fun W x hb=>mD files vl x W (h.hfil.later hb)
 have HIn:=zh h;obtain⟨kind,src,out,sorted⟩:=s;have hu0:=h.hu0;have hu1:=h.hu1;clear h;simp only at e1;subst e1 e2 e3 e4 e5;unfold kK;simp only at HR HF ⊢;have hm0:=iG.made w kind (.slice a1 src.length c1) out sorted (.slice a3 n3 c3) (.slice a4 n4 c4) (.slice a5 n5 c5) u0 u1;have HB0:=zh hm0;clear hm0 hr1 hr2;simp only at HT;go_enter Tryz.func17,Tryz.ntmps17;go_wp2_with fail;refine(HR.out _ HB0.out.below).mono ?_;rintro e w1 ⟨rfl,hb1⟩;have HB1:=zh (HB0.out.later hb1);clear HB0 hb1;go_wp2_with fail;refine(HF.out _ HB1.out.below).mono ?_;rintro e w2 ⟨rfl,hb2⟩;have HB2:=zh (HB1.out.later hb2);clear HB1 hb2;obtain⟨s0,s1,s2,s3,y0,y1,y2,x0,x1,r0,r1,f0,f1⟩:=HB2.out.cells;go_wp2_with fail;refine(HFd.out _ _ HB2.out.below).mono ?_;rw[HT.out];rintro e w3 ⟨rfl,hb3⟩;have HB3:=zh (HB2.out.later hb3);clear HB2 hb3 s0 s1 s2 s3 y0 y1 y2 x0 x1 r0 r1 f0 f1;obtain⟨s0,s1,s2,s3,y0,y1,y2,x0,x1,r0,r1,f0,f1⟩:=HB3.out.cells;go_wp2_with fail;go_region
 go_wp2_with fail
 exact HB3.out.err rfl rfl rfl rfl rfl fun W' hW=>⟨rfl,hW⟩):p:=h
theorem sY{p:Prop}(h:p:=by
 clear hbad;go_enter Tryz.func17,Tryz.ntmps17;go_wp2_with fail;refine(HR.out _ HB0.out.below).mono ?_;rintro e w1 ⟨rfl,hb1⟩;have HB1:=zh (HB0.out.later hb1);clear HB0 hb1;go_wp2_with fail;refine(HF.out _ HB1.out.below).mono ?_;rintro e w2 ⟨rfl,hb2⟩;have HB2:=zh (HB1.out.later hb2);clear HB1 hb2;obtain⟨-,-,-,-,-,-,-,x0,x1,r0,r1,f0,f1⟩:=HB2.out.cells;go_wp2_with fail;go_region
 go_wp2_with fail
 exact HB2.out.err rfl rfl rfl rfl rfl fun W' hW=>⟨rfl,hW⟩):p:=h
theorem res_cells{w:World}{b:Nat}{u v x y:Value}(h0:w.cell? ⟨b,0,none⟩=some x)(h1:w.cell? ⟨b,1,none⟩=some y):
  ((w.setCell ⟨b,0,none⟩ u).setCell ⟨b,1,none⟩ v).drew.cell? ⟨b,0,none⟩=some u/\((w.setCell ⟨b,0,none⟩ u).setCell ⟨b,1,none⟩ v).drew.cell? ⟨b,1,none⟩=some v:=by
 obtain⟨c,e,fr,hb,hc0⟩:=Sort.cells_of_cell? h0;obtain⟨c',e',fr',hb',hc1⟩:=Sort.cells_of_cell? h1;rw[hb] at hb';cases hb';have i0:0<c.size:=by rcases Nat.lt_or_ge 0 c.size with h|h;exact h;rw[Array.getElem?_eq_none h] at hc0;cases hc0
 have i1:1<c.size:=by rcases Nat.lt_or_ge 1 c.size with h|h;exact h;rw[Array.getElem?_eq_none h] at hc1;cases hc1
 have hH:((w.setCell ⟨b,0,none⟩ u).setCell ⟨b,1,none⟩ v).drew.heap[b]? =some (.cells ((c.setIfInBounds 0 u).setIfInBounds 1 v) e fr):=by
  show((w.setCell ⟨b,0,none⟩ u).setCell ⟨b,1,none⟩ v).heap[b]? =_;simp[World.setCell,Array.getElem?_modify,hb]
 constructor
 ·simp only[World.cell?,hH];simp[i0]
 ·simp only[World.cell?,hH];simp[i1]
structure DoIn (s:Stp) (files:List Fil) (clock order:List Int) (vf vl vc vo vn:Value) (u0 u1:Int) (w:World):Prop where
 hglob:bV w
 hsrc:Strs w vf s.src
 hout:s.out.size<=140737488355328
 hfil:eP w vl files
 hclk:gZ w vc clock
 hord:gZ w vo order
 hnxt:∃a n c,vn=.slice a n c
 hu0: -9223372036854775808<=u0/\u0<=1152921504606846976
 hu1: -9223372036854775808<=u1/\u1<=1152921504606846976
 hcwf:∀x,x∈clock->(Lit.int .i64 x).wf=true
 howf:∀x,x∈order->(Lit.int .i64 x).wf=true
abbrev kK(s:Stp)(vf vl vc vo vn:Value)(u0 u1:Int):Array Value:=
 #[.agg #[.int .i64 s.kind,vf,.string s.out,.bool s.sorted],vl,.agg #[vc,vo,vn],.agg #[.int .i64 u0,.int .i64 u1]]
abbrev mN(u0 u1 e:Int):Value:=.tuple #[.slice none 0 0,.slice none 0 0,.agg #[.int .i64 u0,.int .i64 u1],.int .i64 e]
theorem nH{s:Stp}{files:List Fil}{clock order:List Int}{vf vl vc vo vn:Value}{u0 u1:Int}{w:World}(h:DoIn s files clock order vf vl vc vo vn u0 u1 w):
  (∃a c,vf=.slice a s.src.length c)/\(∃a c,vl=.slice a files.length c)/\(∃a n c,vc=.slice a n c)/\(∃a n c,vo=.slice a n c)/\(∃a n c,vn=.slice a n c):=by
 obtain⟨a1,c1,h1,-⟩:=h.hsrc;obtain⟨a2,c2,h2,-⟩:=h.hfil;obtain⟨a3,c3,h3,-⟩:=h.hclk;obtain⟨a4,c4,h4,-⟩:=h.hord;exact⟨⟨a1,c1,h1⟩,⟨a2,c2,h2⟩,⟨a3,_,c3,h3⟩,⟨a4,_,c4,h4⟩,h.hnxt⟩
structure iG (w W:World) (kind:Int) (vf:Value) (out:ByteArray) (sorted:Bool) (vc vo vn:Value) (u0 u1:Int):Prop where
 bs:W.heap[w.heap.size]? =some (.cells #[.int .i64 kind,vf,.string out,.bool sorted] 24 (0,0))
 bw:W.heap[w.heap.size+1]? =some (.cells #[vc,vo,vn] 28 (0,0))
 bu:W.heap[w.heap.size+1+1]? =some (.cells #[.int .i64 u0,.int .i64 u1] 31 (0,0))
 br:W.heap[w.heap.size+1+1+1]? =some (.cells #[.int .i64 0,.int .i64 0] 31 (0,0))
 below:Below w.heap.size w W
theorem iL{W:World}{k:Nat}{o:Obj}(h:W.heap[k]? =some o):k<W.heap.size:=(Array.getElem?_eq_some_iff.1 h).1
theorem iG.made(w:World)(kind:Int)(vf:Value)(out:ByteArray)(sorted:Bool)(vc vo vn:Value)(u0 u1:Int):
  iG w ((((w.alloc (.cells #[.int .i64 kind,vf,.string out,.bool sorted] 24)).alloc (.cells #[vc,vo,vn] 28)).alloc (.cells #[.int .i64 u0,.int .i64 u1] 31)).alloc (.cells #[.int .i64 0,.int .i64 0] 31)) kind vf out sorted vc vo vn u0 u1:=by
 refine⟨?_,?_,?_,?_,((((Below.refl _ w).alloc (Nat.le_refl _) _).alloc vZ _).alloc wQ _).alloc wQ _⟩
 ·rw[Below.heap_alloc _ _ _ wQ,Below.heap_alloc _ _ _ wQ,Below.heap_alloc _ _ _ vZ,aN]
 ·rw[Below.heap_alloc _ _ _ vZ,Below.heap_alloc _ _ _ vZ];have h:=aN (w.alloc (.cells #[.int .i64 kind,vf,.string out,.bool sorted] 24)) (.cells #[vc,vo,vn] 28);simpa only[World.size_alloc] using h
 ·rw[Below.heap_alloc _ _ _ vZ];have h:=aN ((w.alloc (.cells #[.int .i64 kind,vf,.string out,.bool sorted] 24)).alloc (.cells #[vc,vo,vn] 28)) (.cells #[.int .i64 u0,.int .i64 u1] 31);simpa only[World.size_alloc] using h
 ·have h:=aN (((w.alloc (.cells #[.int .i64 kind,vf,.string out,.bool sorted] 24)).alloc (.cells #[vc,vo,vn] 28)).alloc (.cells #[.int .i64 u0,.int .i64 u1] 31)) (.cells #[.int .i64 0,.int .i64 0] 31);simpa only[World.size_alloc] using h
section
variable {w W W':World} {kind:Int} {vf:Value} {out:ByteArray} {sorted:Bool} {vc vo vn:Value} {u0 u1:Int}
theorem iG.later(h:iG w W kind vf out sorted vc vo vn u0 u1)(hb:Below W.heap.size W W'):iG w W' kind vf out sorted vc vo vn u0 u1:=
 ⟨(hb.block _ (iL h.bs)).trans h.bs,(hb.block _ (iL h.bw)).trans h.bw,(hb.block _ (iL h.bu)).trans h.bu,(hb.block _ (iL h.br)).trans h.br,aB h.below hb⟩
theorem iG.only{b:Nat}(h:iG w W kind vf out sorted vc vo vn u0 u1)(hb:bU b W W')(hbb:w.heap.size+1+1+1<b):iG w W' kind vf out sorted vc vo vn u0 u1:=
 ⟨(hb.block _ (iL h.bs) vT).trans h.bs,(hb.block _ (iL h.bw) vT).trans h.bw,(hb.block _ (iL h.bu) vT).trans h.bu,(hb.block _ (iL h.br) vT).trans h.br,hb.below h.below vT (by have:=iL h.bs;omega)⟩
theorem iG.cells(h:iG w W kind vf out sorted vc vo vn u0 u1):
  W.cell? ⟨w.heap.size,0,none⟩=some (.int .i64 kind)/\W.cell? ⟨w.heap.size,1,none⟩=some vf/\W.cell? ⟨w.heap.size,2,none⟩=some (.string out)/\W.cell? ⟨w.heap.size,3,none⟩=some (.bool sorted)/\
  W.cell? ⟨w.heap.size+1,0,none⟩=some vc/\W.cell? ⟨w.heap.size+1,1,none⟩=some vo/\W.cell? ⟨w.heap.size+1,2,none⟩=some vn/\
  W.cell? ⟨w.heap.size+1+1,0,none⟩=some (.int .i64 u0)/\W.cell? ⟨w.heap.size+1+1,1,none⟩=some (.int .i64 u1)/\
  W.cell? ⟨w.heap.size+1+1+1,0,none⟩=some (.int .i64 0)/\W.cell? ⟨w.heap.size+1+1+1,1,none⟩=some (.int .i64 0)/\
  W.frozen? ⟨w.heap.size+1+1+1,0,none⟩=false/\W.frozen? ⟨w.heap.size+1+1+1,1,none⟩=false:=by
 obtain⟨h1,h2,h3,h4,-⟩:=h;refine⟨?_,?_,?_,?_,?_,?_,?_,?_,?_,?_,?_,?_,?_⟩<;>simp[World.cell?,World.frozen?,h1,h2,h3,h4]
theorem iG.err{e:Int}{a:Act}(h:iG w W kind vf out sorted vc vo vn u0 u1)(h8:a.tmps[8]?.getD undef=.slice none 0 0)(h9:a.tmps[9]?.getD undef=.slice none 0 0)(h10:a.tmps[10]?.getD undef=.pointer (some ⟨w.heap.size+1+1+1,0,none⟩))(h11:a.tmps[11]?.getD undef=.int .i64 e)(hd:a.defers=[]){R:Ending->World->Prop}
  (hR:∀W',Below w.heap.size w W'->R (.returned (mN u0 u1 e)) W'):
  bodyPost Tryz.prog Tryz.f17 R .ret a ((W.setCell ⟨w.heap.size+1+1+1,0,none⟩ (.int .i64 u0)).setCell ⟨w.heap.size+1+1+1,1,none⟩ (.int .i64 u1)).drew:=by
 obtain⟨-,-,-,-,-,-,-,-,-,r0,r1,-,-⟩:=h.cells;have hr:=res_cells (w:=W) (b:=w.heap.size+1+1+1) (u:=.int .i64 u0) (v:=.int .i64 u1) r0 r1;refine bodyPost_ret (v:=mN u0 u1 e) (by simp[results,Tryz.results17,go_sem,hr.1,hr.2,h8,h9,h10,h11]) hd (hR _ ?_);exact((h.below.setCell wQ _).setCell wQ _).drew
end
theorem do_arg(s:Stp)(files:List Fil)(clock order:List Int)(vf vl vc vo vn:Value)(u0 u1:Int)(w:World)(h:DoIn s files clock order vf vl vc vo vn u0 u1 w)
  (hbad:aP s=false\/aR files=false\/min u0 u1<0):
  Calls Tryz.prog 17 (kK s vf vl vc vo vn u0 u1) w fun e w'=>e=.returned (mN u0 u1 1)/\Below w.heap.size w w':=by
 obtain⟨⟨a1,c1,e1⟩,⟨a2,c2,e2⟩,⟨a3,n3,c3,e3⟩,⟨a4,n4,c4,e4⟩,⟨a5,n5,c5,e5⟩⟩:=nH h
 have HR:Hid (∀W,Below w.heap.size w W->Calls Tryz.prog 24 #[.agg #[.int .i64 s.kind,vf,.string s.out,.bool s.sorted]] W fun e w'=>e=.returned (.bool (aP s))/\Below W.heap.size W w'):=
  zh fun W hb=>gE s vf W (h.hsrc.later hb) h.hout
 have HF:Hid (∀W,Below w.heap.size w W->Calls Tryz.prog 51 #[vl] W fun e w'=>e=.returned (.bool (aR files))/\Below W.heap.size W w'):=
  zh fun W hb=>gK files vl W (h.hfil.later hb)
 obtain⟨kind,src,out,sorted⟩:=s;have hu0:=h.hu0;have hu1:=h.hu1;clear h;simp only at e1;subst e1 e2 e3 e4 e5;unfold kK;simp only at HR HF ⊢;generalize aP ⟨kind,src,out,sorted⟩=r1 at HR hbad;generalize aR files=r2 at HF hbad;have hm0:=iG.made w kind (.slice a1 src.length c1) out sorted (.slice a3 n3 c3) (.slice a4 n4 c4) (.slice a5 n5 c5) u0 u1;have HB0:=zh hm0;clear hm0
 cases r1 with
 |false=>
  clear hbad HF;go_enter Tryz.func17,Tryz.ntmps17;go_wp2_with fail;refine(HR.out _ HB0.out.below).mono ?_;rintro e w1 ⟨rfl,hb1⟩;have HB1:=zh (HB0.out.later hb1);clear HB0 hb1;obtain⟨-,-,-,-,-,-,-,x0,x1,r0,r1,f0,f1⟩:=HB1.out.cells;go_wp2_with fail;go_region
  go_wp2_with fail;exact HB1.out.err rfl rfl rfl rfl rfl fun W' hW=>⟨rfl,hW⟩
 |true=>
  cases r2 with
  |false=>
   exact sY
  |true=>
   (have hmin:min u0 u1<0:=by simpa using hbad);exact sY
theorem do_twice(s:Stp)(files:List Fil)(clock order:List Int)(vf vl vc vo vn:Value)(u0 u1:Int)(w:World)(h:DoIn s files clock order vf vl vc vo vn u0 u1 w)
  (hr1:aP s=true) (hr2:aR files=true) (hmin:¬min u0 u1<0) (t:ByteArray) (ht:aI files s.out=some t):
  Calls Tryz.prog 17 (kK s vf vl vc vo vn u0 u1) w fun e w'=>e=.returned (mN u0 u1 5)/\Below w.heap.size w w':=by
 have HT:=zh (show iD files s.out=.tuple #[.string t,.bool true] by unfold iD;rw[ht]);clear ht;exact rM
theorem do_full(s:Stp)(files:List Fil)(clock order:List Int)(vf vl vc vo vn:Value)(u0 u1:Int)(w:World)(h:DoIn s files clock order vf vl vc vo vn u0 u1 w)
  (hr1:aP s=true) (hr2:aR files=true) (hmin:¬min u0 u1<0) (ht:aI files s.out=none) (hfull:60<=files.length):
  Calls Tryz.prog 17 (kK s vf vl vc vo vn u0 u1) w fun e w'=>e=.returned (mN u0 u1 6)/\Below w.heap.size w w':=by
 have HT:=zh (show iD files s.out=.tuple #[.string ByteArray.empty,.bool false] by unfold iD;rw[ht]);clear ht;exact rM
end Go.Proofs.YtacgopankhpnbaaGreatDoor
