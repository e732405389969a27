/- Texts of this seat, joined. -/
import Derived.Test.YtacgopankhpnbaaGreatDoorSN
import Derived.Deep.RegionHeld3
set_option maxHeartbeats 4000000
set_option maxRecDepth 100000
set_option linter.unusedVariables false
set_option linter.unusedSimpArgs false
namespace Go.Proofs.YtacgopankhpnbaaGreatDoor
open Go.RowKit
structure Boxes (vi vs:Value) (out:ByteArray) (bw bi bm ps pg pv:Nat) (w:World):Prop where
 st:w.heap[ps]? =some (.cells #[.map (some bm)] 192)
 gr:w.heap[pg]? =some (bR vi vs out bw bi)
 fn:w.heap[pv]? =some (.cells #[.func (.func 119) #[] #[.pointer (some ⟨ps,0,none⟩),.pointer (some ⟨pg,0,none⟩),.pointer (some ⟨pv,0,none⟩)]] 97)
structure Circ (L:List (Value×Stp)) (vi vs:Value) (out:ByteArray) (bw bi bm ps pg pv nw:Nat) (w:World) (st:dT):Prop where
 boxes:Boxes vi vs out bw bi bm ps pg pv w
 stps:lD w vs L
 wr:aW eI vInt w bw nw (kD (L.map (·.2)))
 ne:bw≠bm
 marks:∃n m,aW kInt vInt w bm n m/\n+pot st L.length<=1000000/\∀i:Nat,(m i).getD 0=st i
section
variable {L:List (Value×Stp)} {vi vs:Value} {out:ByteArray} {bw bi bm ps pg pv nw:Nat} {w w':World} {st st':dT}
theorem Circ.isMap(h:Circ L vi vs out bw bi bm ps pg pv nw w st):cQ w bm:=by obtain⟨n,m,h1,-⟩:=h.marks;exact cQ.of h1
theorem Circ.later(h:Circ L vi vs out bw bi bm ps pg pv nw w st)(hb:Below w.heap.size w w'):Circ L vi vs out bw bi bm ps pg pv nw w' st:=by
 obtain⟨n,m,h1,h2,h3⟩:=h.marks;have hx:∀{k:Nat}{o:Obj},w.heap[k]? =some o->w'.heap[k]? =some o:=fun hk=>(hb.block _ (Array.getElem?_eq_some_iff.1 hk).1).trans hk;exact⟨⟨hx h.boxes.st,hx h.boxes.gr,hx h.boxes.fn⟩,h.stps.later hb,h.wr.later hb,h.ne,n,m,h1.later hb,h2,h3⟩
theorem Circ.cells(h:Circ L vi vs out bw bi bm ps pg pv nw w st):w.cell? ⟨ps,0,none⟩=some (.map (some bm))/\
  (w.cell? ⟨pg,0,none⟩=some vi/\w.cell? ⟨pg,1,none⟩=some vs/\w.cell? ⟨pg,2,none⟩=some (.string out)/\w.cell? ⟨pg,3,none⟩=some (.map (some bw))/\w.cell? ⟨pg,4,none⟩=some (.map (some bi)))/\
  w.cell? ⟨pv,0,none⟩=some (.func (.func 119) #[] #[.pointer (some ⟨ps,0,none⟩),.pointer (some ⟨pg,0,none⟩),.pointer (some ⟨pv,0,none⟩)]):=
 ⟨box1 h.boxes.st,box5 h.boxes.gr,box1 h.boxes.fn⟩
theorem nat_wf{i:Nat}(h:i<9223372036854775808):(Lit.int .i64 (i:Int)).wf=true:=by
 have:decide (IntKind.i64.min<=(i:Int))=true/\decide ((i:Int)<=IntKind.i64.max)=true:=⟨decide_eq_true (by show(-9223372036854775808:Int)<=_;omega),decide_eq_true (by show _<=(9223372036854775807:Int);omega)⟩;simp only[Lit.wf,this.1,this.2,Bool.and_self]
theorem wf1:(Lit.int .i64 1).wf=true:=VI
theorem wf2:(Lit.int .i64 2).wf=true:=VI
theorem Circ.look(h:Circ L vi vs out bw bi bm ps pg pv nw w st){i:Nat}(hi:i<9223372036854775808):(Instr.lookup 192 (.map (some bm)) (.int .i64 i) false).run Tryz.prog w=.ok (.int .i64 (st i)) w:=by
 obtain⟨n,m,h1,-,h3⟩:=h.marks;have:=h1.look Tryz.underlying192 (x:=(i:Int)) (nat_wf hi);rw[show(m i).getD vInt.zero=st i from h3 i] at this;exact this
open Classical in
theorem Circ.set(h:Circ L vi vs out bw bi bm ps pg pv nw w st){i:Nat}{x:Int}(hi:i<L.length)(hx:(st i=0/\x=1)\/(st i=1/\x=2))(hl:L.length<=1000000):
  ∃w',(Instr.mapUpdate 192 (.map (some bm)) (.int .i64 i) (.int .i64 x)).run Tryz.prog w=.ok () w'/\Circ L vi vs out bw bi bm ps pg pv nw w' (iA st i x)/\bL bm w w':=by
 obtain⟨n,m,h1,h2,h3⟩:=h.marks;have hp:=pot_mark hx L.length hi;obtain⟨w',sB,hm',hg⟩:=h1.store Tryz.underlying192 VR (x:=(i:Int)) (nat_wf VG) (y:=x) (by rcases hx with⟨-,rfl⟩|⟨-,rfl⟩;exact wf1;exact wf2);have ho:=iE hg;have hM:=h.isMap;refine⟨w',sB,⟨⟨hM.box ho h.boxes.st,hM.box ho h.boxes.gr,hM.box ho h.boxes.fn⟩,h.stps.onlyMap hM ho,h.wr.of_block (ho.block _ h.wr.lt h.ne),h.ne,n+1,_,hm',VG,fun j=>?_⟩,ho⟩;by_cases hj:j=i
 ·subst hj;simp[iA]
 ·have:¬(j:Int)=i:=VG;simp only[this,if_false,iA,hj];exact h3 j
abbrev visitCap(ps pg pv:Nat):Array Value:=#[.pointer (some ⟨ps,0,none⟩),.pointer (some ⟨pg,0,none⟩),.pointer (some ⟨pv,0,none⟩)]
theorem enters_visit:∀args w,(callFunc 119 args).run Tryz.prog w=.ok (.enter 119 args) w:=enters_of Tryz.func119 VH rfl
def VisitPost(L:List (Value×Stp))(vi vs:Value)(out:ByteArray)(bw bi bm ps pg pv nw:Nat)(w:World)(r:dT×Bool)(e:Ending)(w':World):Prop:=
 e=.returned (.bool r.2)/\Circ L vi vs out bw bi bm ps pg pv nw w' r.1/\bL bm w w'
def VisitOk(L:List (Value×Stp))(vi vs:Value)(out:ByteArray)(bw bi bm ps pg pv nw f:Nat):Prop:=
 ∀(w:World)(st:dT)(i:Nat),Circ L vi vs out bw bi bm ps pg pv nw w st->i<L.length->jU st L.length<f->
  Calls Tryz.prog 119 #[.int .i64 i,.pointer (some ⟨ps,0,none⟩),.pointer (some ⟨pg,0,none⟩),.pointer (some ⟨pv,0,none⟩)] w (VisitPost L vi vs out bw bi bm ps pg pv nw w (eE (aY (L.map (·.2))) f st i))
theorem visit_search{f:Nat}(ih:VisitOk L vi vs out bw bi bm ps pg pv nw f){l:List Nat}{v:Value}(hl:∀j,j∈l->j<L.length)(h:Circ L vi vs out bw bi bm ps pg pv nw w st)(hI:gN w v (bE l))(hz:jU st L.length<f):
  Calls Tryz.prog 61 #[v,.func (.func 119) #[] (visitCap ps pg pv)] w (VisitPost L vi vs out bw bi bm ps pg pv nw w (jR (eE (aY (L.map (·.2))) f) st l)):=by
 refine(pJ _ _ (eE (aY (L.map (·.2))) f) l v (fun W s=>Circ L vi vs out bw bi bm ps pg pv nw W s/\bL bm w W/\jU s L.length<f) w st ⟨h,bL.refl _ _,hz⟩ ⟨fun W s hs=>hI.onlyMap h.isMap hs.2.1,enters_visit,fun x hx W s hs=>?_⟩).mono ?_
 ·refine(ih W s x hs.1 (hl x hx) hs.2.2).mono ?_;rintro e W' ⟨rfl,h1,h2⟩;exact⟨rfl,h1,hs.2.1.trans h2,Nat.lt_of_le_of_lt (visit_zeros _ _ _ _ _) hs.2.2⟩
 ·rintro e W' ⟨rfl,h1,h2,-⟩;exact⟨rfl,h1,h2⟩
theorem needsAt_of{y:Value×Stp}{i:Nat}(hy:L[i]? =some y):aY (L.map (·.2)) i=eF (L.map (·.2)) y.2:=by
 unfold aY;rw[List.getElem?_map,hy];rfl
theorem visit_seen{needs:Nat->List Nat}{f i:Nat}(h:st i≠0):eE needs (f+1) st i=(st,decide (st i=1)):=by rw[eE,if_pos h]
theorem visit_true{needs:Nat->List Nat}{f i:Nat}(h:st i=0)(h2:(jR (eE needs f) (iA st i 1) (needs i)).2=true):eE needs (f+1) st i=((jR (eE needs f) (iA st i 1) (needs i)).1,true):=by
 rw[eE,if_neg (by simp[h]),if_pos h2]
theorem visit_false{needs:Nat->List Nat}{f i:Nat}(h:st i=0)(h2:(jR (eE needs f) (iA st i 1) (needs i)).2=false):eE needs (f+1) st i=(iA (jR (eE needs f) (iA st i 1) (needs i)).1 i 2,false):=by
 rw[eE,if_neg (by simp[h]),if_neg (by simp[h2])]
end
theorem visit_any(L:List (Value×Stp))(vi vs:Value)(out:ByteArray)(bw bi bm ps pg pv nw:Nat)(hL:L.length<=1000000)(hs:∀y,y∈L->y.2.src.length<=1000000):∀f,VisitOk L vi vs out bw bi bm ps pg pv nw f
 |0=>fun w st i _ _ h=>absurd h VG
 |f+1=>by
  have ih:=zh (visit_any L vi vs out bw bi bm ps pg pv nw hL hs f);intro w st i h hi hz;have hl:=h.look (i:=i) VG;obtain⟨c0,-,-⟩:=h.cells;by_cases h0:st i=0
  ·obtain⟨w1,hu,h1,pV⟩:=h.set (i:=i) (x:=1) hi (.inl ⟨h0,rfl⟩) hL;obtain⟨y,hy,ES⟩:=getElem?_of_lt hi;have HM:=zh (jO st i 1);have qI:=zeros_mark h0 L.length hi;have qH:jU (iA st i 1) L.length<f:=VG;have HZ:=zh qH;have HV0:=zh h0;have HN:=zh (needs_any (L.map (·.2)) vi vs out bw bi nw L i y w1.drew (h1.later (Below.refl _ _).drew).stps hy (h1.later (Below.refl _ _).drew).wr (hs y ES));rw[<-needsAt_of hy] at HN;have xR:=zh h1;have RY:=zh pV;rw[h0] at hl
   have HR:Hid (∀v w2,Below w1.heap.size w1 w2->gN w2 v (bE (aY (L.map (·.2)) i))->Calls Tryz.prog 61 #[v,.func (.func 119) #[] (visitCap ps pg pv)] w2 (VisitPost L vi vs out bw bi bm ps pg pv nw w2 (jR (eE (aY (L.map (·.2))) f) (iA st i 1) (aY (L.map (·.2)) i)))):=
    zh fun v w2 hb hI=>visit_search ih.out (fun j hj=>by have:=lJ hj;simpa using this) (xR.out.later hb) hI HZ.out
   have HK:=zh (nN (jB (aY (L.map (·.2))) f) (aY (L.map (·.2)) i) (iA st i 1) i (by rw[HM.out];decide));rw[HM.out] at HK;have HT:=zh (fun h2=>visit_true (needs:=aY (L.map (·.2))) (f:=f) HV0.out h2);have HF:=zh (fun h2=>visit_false (needs:=aY (L.map (·.2))) (f:=f) HV0.out h2);generalize jR (eE (aY (L.map (·.2))) f) (iA st i 1) (aY (L.map (·.2)) i)=r at HR HK HT HF;obtain⟨st2,q⟩:=r;have HE:=zh xR.out.cells.2;obtain⟨⟨g0,g1,g2,g3,g4⟩,g5⟩:=HE.out;generalize eE (aY (L.map (·.2))) (f+1) st i=V at HT HF ⊢;generalize aY (L.map (·.2)) i=l at HN HR;clear h h0 hy ES h1 pV hz qI qH HM HV0 HZ ih hs
   cases q with
   |true=>
    have HV:=zh (HT.out rfl);clear HT HF;go_enter Tryz.func119,Tryz.ntmps119;go_wp2_with fail;clear hl hu c0
    go_region_held3 (fun W=>(W.cell? ⟨pg,0,none⟩=some vi/\W.cell? ⟨pg,1,none⟩=some vs/\W.cell? ⟨pg,2,none⟩=some (.string out)/\W.cell? ⟨pg,3,none⟩=some (.map (some bw))/\W.cell? ⟨pg,4,none⟩=some (.map (some bi)))/\W.cell? ⟨pv,0,none⟩=some (.func (.func 119) #[] #[.pointer (some ⟨ps,0,none⟩),.pointer (some ⟨pg,0,none⟩),.pointer (some ⟨pv,0,none⟩)]))
     (first|(with_reducible exact HE.out)|(with_reducible exact yK.out)|(with_reducible exact HE3.out)|go_keep)
     (first|(go_at_call 67;(with_reducible refine HN.out.mono ?_);rintro e w2 ⟨v,rfl,hI,-,hb⟩;have HB:Hid (Below w1.heap.size w1 w2):=zh ((Below.refl _ w1).drew.trans hb);have yK:=zh (xR.out.later HB.out).cells.2;have HI:=zh hI;clear hI hb)|(have _g:=HB;go_at_call 61;(with_reducible refine(HR.out v w2 HB.out HI.out).mono ?_);rintro e w3 ⟨rfl,BC,pY⟩;have HE3:=zh BC.cells.2;have M6:=zh BC;have DL:=zh pY;clear BC pY))
    all_goals
     go_wp2_with fail;go_ret;refine⟨by rw[HV.out];rfl,by rw[HV.out];exact M6.out,?_⟩;exact(RY.out.trans (bL.of_below HB.out)).trans DL.out
   |false=>
    have HV:=zh (HF.out rfl);clear HT HF;go_enter Tryz.func119,Tryz.ntmps119;go_wp2_with fail;clear hl hu c0
    go_region_held3 (fun W=>(W.cell? ⟨pg,0,none⟩=some vi/\W.cell? ⟨pg,1,none⟩=some vs/\W.cell? ⟨pg,2,none⟩=some (.string out)/\W.cell? ⟨pg,3,none⟩=some (.map (some bw))/\W.cell? ⟨pg,4,none⟩=some (.map (some bi)))/\W.cell? ⟨pv,0,none⟩=some (.func (.func 119) #[] #[.pointer (some ⟨ps,0,none⟩),.pointer (some ⟨pg,0,none⟩),.pointer (some ⟨pv,0,none⟩)]))
     (first|(with_reducible exact HE.out)|(with_reducible exact yK.out)|(with_reducible exact HE3.out)|go_keep)
     (first|(go_at_call 67;(with_reducible refine HN.out.mono ?_);rintro e w2 ⟨v,rfl,hI,-,hb⟩;have HB:Hid (Below w1.heap.size w1 w2):=zh ((Below.refl _ w1).drew.trans hb);have yK:=zh (xR.out.later HB.out).cells.2;have HI:=zh hI;clear hI hb)|(have _g:=HB;go_at_call 61;(with_reducible refine(HR.out v w2 HB.out HI.out).mono ?_);rintro e w3 ⟨rfl,BC,pY⟩;have HE3:=zh BC.cells.2;have M6:=zh BC;have DL:=zh pY;clear BC pY))
    all_goals
     obtain⟨w4,hu4,h4,pW⟩:=M6.out.set (i:=i) (x:=2) hi (.inr ⟨HK.out,rfl⟩) hL;obtain⟨d0,-,-⟩:=M6.out.cells;have OV:=zh h4;have E6:=zh pW;clear h4 pW;go_wp2_with fail;go_ret;refine⟨by rw[HV.out];rfl,by rw[HV.out];exact OV.out,?_⟩;exact((RY.out.trans (bL.of_below HB.out)).trans DL.out).trans E6.out
  ·have HV:=zh (visit_seen (needs:=aY (L.map (·.2))) (f:=f) h0);have HC:=zh h;have FV:(st i==0)=false:=beq_eq_false_iff_ne.2 h0;(have pS:(st i != 0)=true:=by rw[bne_iff_ne];exact h0);rw[HV.out];unfold VisitPost;generalize hx:st i=x at hl FV pS ⊢;clear hx h h0 hz HV ih hs;go_enter Tryz.func119,Tryz.ntmps119;go_wp2_with fail;go_ret;exact⟨aD (by rw[Bool.eq_iff_iff];simp),HC.out,bL.refl _ _⟩
end Go.Proofs.YtacgopankhpnbaaGreatDoor
namespace Go.Proofs.YtacgopankhpnbaaGreatDoor
open Go.RowKit
theorem join_any(l:List ByteArray)(v:Value)(w:World)(hv:Strs w v l)(hlen:(Lib.join (l.map (·.data.toList)) []).length<=140737488355328)(hl:l.length<=140737488355328):
  Calls Tryz.prog 79 #[v,.string ⟨#[]⟩] w fun e w'=>e=.returned (.string (joinB l))/\Below w.heap.size w w':=by
 rcases hv.cases with⟨rfl,a,c,rfl⟩|⟨b,o,c,rfl,h0,h1,h2,hb,hc⟩
 ·refine(Tryz.strings_Join_none a c ⟨#[]⟩ w).mono ?_;rintro e w' ⟨rfl,rfl⟩;exact⟨rfl,Below.refl _ _⟩
 ·exact Tryz.strings_Join b o c l ⟨#[]⟩ w (fun j x hx=>(hc j x hx).1) hb hl h1 hlen
theorem write_join(b:Nat)(saw:List ByteArray)(vs clk ord nxt:Value)(u0 u1 kind:Int)(vf:Value)(tn:ByteArray)(sorted:Bool)(w:World)(hs:Sbx w b vs clk ord nxt u0 u1)(hsaw:Strs w vs saw)
  (hk:kind=0\/kind=1) (hf:∃a n c,vf=.slice a n c) (hlen:(Lib.join (saw.map (·.data.toList)) []).length<=140737488355328) (hl:saw.length<=140737488355328):
  Calls Tryz.prog 52 #[.pointer (some ⟨b,0,none⟩),.agg #[.int .i64 kind,vf,.string tn,.bool sorted]] w fun e w'=>
   e=.returned (.tuple #[.string (joinB saw),.int .i64 0])/\Sbx w' b vs clk ord nxt u0 u1/\bL b w w':=by
 obtain⟨a,n,c,rfl⟩:=hf;have c0:=hs.cell 0;have rZ:=hs.lt;simp only[List.getElem?_toArray,List.getElem?_cons_zero] at c0;have HS:=zh hs;clear hs;have HJ:Hid (∀W,Below w.heap.size w W->Calls Tryz.prog 79 #[vs,.string ⟨#[]⟩] W fun e w'=>e=.returned (.string (joinB saw))/\Below W.heap.size W w'):=zh fun W hb=>join_any saw vs W (hsaw.later hb) hlen hl;obtain⟨a1,c1,G5,-⟩:=id hsaw;clear hsaw hlen hl;subst G5;rcases hk with rfl|rfl
 all_goals
  go_enter Tryz.func52,Tryz.ntmps52;go_wp2_with fail;refine(HJ.out _ (aA _ _)).mono ?_;rintro e w' ⟨rfl,hb⟩;have pR:=aB (aA _ _) hb;go_wp2_with fail;go_ret2;exact⟨rfl,HS.out.later pR,bL.of_below pR⟩
theorem write_sort(b:Nat)(text:ByteArray)(vs clk ord nxt:Value)(u0 u1:Int)(vf:Value)(tn:ByteArray)(sorted:Bool)(w:World)(hG:dH w)(hs:Sbx w b vs clk ord nxt u0 u1)(hsaw:Strs w vs [text])
  (hf:∃a n c,vf=.slice a n c) (ht:text.size<=1000000) (hlen:(iK (dO text)).length<=140737488355328):
  Calls Tryz.prog 52 #[.pointer (some ⟨b,0,none⟩),.agg #[.int .i64 3,vf,.string tn,.bool sorted]] w fun e w'=>
   e=.returned (.tuple #[.string (rowsB (dO text)),.int .i64 0])/\Sbx w' b vs clk ord nxt u0 u1/\bL b w w':=by
 obtain⟨a,n,c,rfl⟩:=hf;have c0:=hs.cell 0;have rZ:=hs.lt;simp only[List.getElem?_toArray,List.getElem?_cons_zero] at c0;have HS:=zh hs;clear hs;rcases hsaw.cases with⟨h,-⟩|⟨bl,o,c1,rfl,h0,h1,h2,hb,hc⟩
 ·cases h
 have c2:=(hc 0 text rfl).1;simp only[Nat.add_zero,List.length_cons,List.length_nil,Nat.zero_add] at c2 c0 h1 ⊢;have pR:bl<w.heap.size:=hb;have HSo:Hid (∀W,Below w.heap.size w W->Calls Tryz.prog 81 #[.string text] W fun e w'=>∃v,e=.returned v/\Strs w' v (dO text)/\Below W.heap.size W w'):=zh fun W hb=>sorted_any text W (hG.later hb) ht;have HR:Hid (∀W v,Strs W v (dO text)->Calls Tryz.prog 80 #[v] W fun e w'=>e=.returned (.string (rowsB (dO text)))/\Below W.heap.size W w'):=zh fun W v h=>rows_any _ v W h hlen;clear hsaw hc hG hb hlen;go_enter Tryz.func52,Tryz.ntmps52;go_wp2_with fail;refine(HSo.out _ (aA _ _)).mono ?_;rintro e w1 ⟨v,rfl,hv,pS⟩;have HV:=zh hv;obtain⟨a3,c3,hv3,-⟩:=hv;subst hv3;go_wp2_with fail;refine(HR.out _ _ HV.out).mono ?_;rintro e w2 ⟨rfl,pR⟩;have uM:=aB (aB (aA _ _) pS) pR;go_wp2_with fail;go_ret2;exact⟨rfl,HS.out.later uM,bL.of_below uM⟩
theorem Sbx.saw0{w:World}{b:Nat}{saw clk ord nxt:Value}{u0 u1:Int}(h:Sbx w b saw clk ord nxt u0 u1)(x:Value):Sbx (w.setCell ⟨b,0,none⟩ x) b x clk ord nxt u0 u1:=by
 unfold Sbx at h ⊢;exact UG
theorem strs_setCell{w:World}{b o:Nat}{x v:Value}{l:List ByteArray}(h:Strs w v l)(hb:∀a n c,v=.slice (some a) n c->a.block≠b):Strs (w.setCell ⟨b,o,none⟩ x) v l:=by
 obtain⟨a,c,hv,h1,h2,h3⟩:=h;refine⟨a,c,hv,h1,h2,fun pQ=>?_⟩;obtain⟨b',o',ha,hc⟩:=h3 pQ;refine⟨b',o',ha,fun i x' hx=>?_⟩;obtain⟨cs,e,hl,hj⟩:=hc i x' hx;have uM:=hb ⟨b',o',none⟩ l.length c (by rw[hv,ha]);exact⟨cs,e,hl,fun j u hu=>(World.cell?_of_block (w:=w) (Below.heap_setCell _ _ _ _ uM)).trans (hj j u hu)⟩
theorem write_list(b:Nat)(out:List ByteArray)(vs clk ord nxt:Value)(u0 u u':Int)(vf:Value)(tn:ByteArray)(sorted:Bool)(w:World)(hs:Sbx w b vs clk ord nxt u0 u)
  (hf:∃a n c,vf=.slice a n c)
  (NS:∀W,Below w.heap.size w W->Calls Tryz.prog 87 #[.pointer (some ⟨b,0,none⟩),vf,.bool sorted] W fun e w'=>∃v,e=.returned v/\Strs w' v out/\(∀a n c,v=.slice (some a) n c->W.heap.size<=a.block)/\Sbx w' b vs clk ord nxt u0 u'/\bL b W w')
  (hlen:(iK out).length<=140737488355328):
  Calls Tryz.prog 52 #[.pointer (some ⟨b,0,none⟩),.agg #[.int .i64 2,vf,.string tn,.bool sorted]] w fun e w'=>
   e=.returned (.tuple #[.string (rowsB out),.int .i64 0])/\Sbx w' b (.slice none 0 0) clk ord nxt u0 u'/\bL b w w':=by
 obtain⟨a,n,c,rfl⟩:=hf;have rZ:=hs.lt;have HL:=zh NS;have HR:Hid (∀W v,Strs W v out->Calls Tryz.prog 80 #[v] W fun e w'=>e=.returned (.string (rowsB out))/\Below W.heap.size W w'):=zh fun W v h=>rows_any _ v W h hlen;clear NS hs hlen;go_enter Tryz.func52,Tryz.ntmps52;go_wp2_with fail;refine(HL.out _ (aA _ _)).mono ?_;rintro e w1 ⟨v,rfl,hv,hvb,GM,hon⟩;have HV:=zh hv;have HSB:=zh GM;have HVB:=zh hvb;have c0:=GM.cell 0;have f0:=GM.frozen 0;simp only[List.getElem?_toArray,List.getElem?_cons_zero] at c0;obtain⟨a3,c3,hv3,-⟩:=id hv;subst hv3;clear hv GM hvb;go_wp2_with fail;refine(HR.out _ _ (strs_setCell HV.out (fun a n c e=>by have:=HVB.out a n c e;simp at this;omega))).mono ?_;rintro e w2 ⟨rfl,pR⟩;go_wp2_with fail;go_ret2;refine⟨rfl,(HSB.out.saw0 _).later pR,?_⟩;exact((bL.of_below (aA _ _)).trans hon).trans ((bL.setCell w1).trans (bL.of_below pR))
theorem wireInt_size(n:Int)(h0: -9223372036854775808<=n)(h1:n<=9223372036854775807):(nQ n).size<=100:=by
 have:=Lib.itoa_length_le n h0 h1;show(Lib.itoa n++[59]).toArray.size<=100;simp;omega
theorem write_stamp(b:Nat)(text:ByteArray)(clock:List Int)(vs clk ord nxt:Value)(u0 u1:Int)(vf:Value)(tn:ByteArray)(sorted:Bool)(w:World)(hG:dH w)(hs:Sbx w b vs clk ord nxt u0 u1)(hsaw:Strs w vs [text])
  (GM:∀a n c,vs=.slice (some a) n c->a.block≠b) (hclk:gN w clk clock) (hf:∃a n c,vf=.slice a n c) (ht:text.size<=1000000) (hu0:0<=u0) (hu1:u0<=4611686018427387904) (yO:11<=b)
  (hw:∀x,x∈clock->(Lit.int .i64 x).wf=true):
  Calls Tryz.prog 52 #[.pointer (some ⟨b,0,none⟩),.agg #[.int .i64 4,vf,.string tn,.bool sorted]] w fun e w'=>
   e=.returned (.tuple #[.string (stampB text (clock.getD u0.toNat 0)),.int .i64 0])/\Sbx w' b vs clk ord nxt (u0+1) u1/\bL b w w':=by
 obtain⟨a,n,c,rfl⟩:=hf;have c0:=hs.cell 0;have c1:=hs.cell 1;have rZ:=hs.lt;simp only[List.getElem?_toArray,List.getElem?_cons_zero,List.getElem?_cons_succ] at c0 c1;rcases hsaw.cases with⟨h,-⟩|⟨bl,o,cc,rfl,h0,h1,h2,hb,hc⟩
 ·cases h
 have hblb:bl≠b:=GM ⟨bl,o,none⟩ _ _ rfl;have c2:=(hc 0 text rfl).1;simp only[Nat.add_zero,List.length_cons,List.length_nil,Nat.zero_add] at c2 c0 h1;have FV:Below w.heap.size w (w.alloc (.cells #[.int .i64 4,.slice a n c,.string tn,.bool sorted] 24)):=aA _ _;have HS0:=zh (hs.later FV);have HC0:=zh (hclk.later FV);have HG0:=zh (hG.later FV);have HO0:=zh (bL.of_below (b:=b) FV);have d0:=aC FV c0;have d1:=aC FV c1;have d2:=aC FV c2
 have NH:(Lit.int .i64 (clock.getD u0.toNat 0)).wf=true:=by
  rw[List.getD_eq_getElem?_getD]
  cases hh:clock[u0.toNat]? with
  |none=>rfl
  |some y=>exact hw y (List.mem_of_getElem? hh)
 obtain⟨DQ,EU⟩:=i64_bounds NH;obtain⟨ak,ck,hvk,-⟩:=id hclk;subst hvk
 have HN:Hid (∀W,Sbx W b (.slice (some ⟨bl,o,none⟩) 1 cc) (.slice ak clock.length ck) ord nxt u0 u1->gN W (.slice ak clock.length ck) clock->Calls Tryz.prog 83 #[.pointer (some ⟨b,0,none⟩),.slice ak clock.length ck,.int .i64 0] W fun e w'=>e=.returned (.int .i64 (clock.getD u0.toNat 0))/\Sbx w' b (.slice (some ⟨bl,o,none⟩) 1 cc) (.slice ak clock.length ck) ord nxt (u0+1) u1/\bL b W w'):=
  zh fun W h1 h2=>next0_any b _ _ _ _ u0 u1 clock _ W h1 h2 hu0 hu1
 generalize clock.getD u0.toNat 0=X at HN NH DQ EU ⊢;have PA:(nQ X).size<=100:=wireInt_size X DQ EU;have hwz2:(text++nQ X).size<=1000100:=by rw[ByteArray.size_append];omega
 have zL:¬9223372036854775807<text.size+(nQ X).size:=VG;have hn2:¬9223372036854775807<text.size+(nQ X).size+1:=VG;clear hc hsaw hclk hs hG c0 c1 c2 hw NH hb;go_enter Tryz.func52,Tryz.ntmps52;go_wp2_with fail;generalize hW0:w.alloc (.cells #[.int .i64 4,.slice a n c,.string tn,.bool sorted] 24)=W0 at *;clear hW0
 go_region_held3 (fun W=>W.cell? ⟨b,0,none⟩=some (.slice (some ⟨bl,o,none⟩) 1 cc)/\W.cell? ⟨b,1,none⟩=some (.slice ak clock.length ck)/\W.cell? ⟨bl,o,none⟩=some (.string text))
  (first|exact⟨j0,j1,j2⟩|exact⟨k0,k1,k2⟩|exact⟨d0,d1,d2⟩|go_keep)
  (first|(go_at_call 83;refine(HN.out _ (by exact HS0.out) (by exact HC0.out)).mono ?_;rintro e w1 ⟨rfl,LF,PL⟩;have HSB1:=zh LF;have HON1:=zh PL;have k0:w1.cell? ⟨b,0,none⟩=some (.slice (some ⟨bl,o,none⟩) 1 cc):=LF.cell 0;have k1:w1.cell? ⟨b,1,none⟩=some (.slice ak clock.length ck):=LF.cell 1;have k2:w1.cell? ⟨bl,o,none⟩=some (.string text):=PL.cell hblb (by exact d2);clear LF PL)|(go_at_call 82;refine(wireInt_any _ _ (by exact(HG0.out.later (Below.refl _ _).drew).only HON1.out yO) DQ EU).mono ?_;rintro e w2 ⟨rfl,pR⟩;have j0:=aC pR k0;have j1:=aC pR k1;have j2:=aC pR k2))
 go_wp2_with fail;go_ret2;exact⟨rfl,HSB1.out.later pR,(HO0.out.drew.trans HON1.out).trans (bL.of_below pR)⟩
theorem UR{p:Prop}(h:p:=by
 rintro e w' ⟨rfl,hs,ho⟩
 exact⟨_,rfl,hs,⟨⟨none,0,rfl,VL,VL,fun h=>absurd rfl h⟩,fun a n c e _=>by simp at e⟩,ho⟩):p:=h
theorem U0{p:Prop}(h:p:=by
 rintro e w' ⟨rfl,hs,ho⟩
 exact⟨vs,rfl,hs,h.hsaw.only ho,ho⟩):p:=h
theorem kT(l:List ByteArray)(B:Nat)(h:∀x,x∈l->x.size<=B):(iK l).length<=l.length*(B+1):=by
 induction l with
 |nil=>simp[iK]
 |cons x l ih=>
  have h1:=ih (fun y hy=>h y (List.mem_cons_of_mem _ hy));have h2:=h x (List.mem_cons_self ..);have e:iK (x::l)=x.data.toList++[10]++iK l:=by simp[iK]
  rw[e];have:x.data.toList.length=x.size:=VL;simp only[List.length_append,this,List.length_cons,List.length_nil];rw[Nat.add_mul];omega
theorem join_length(l:List ByteArray)(B:Nat)(h:∀x,x∈l->x.size<=B):(Lib.join (l.map (·.data.toList)) []).length<=l.length*B:=by
 have:Lib.join (l.map (·.data.toList)) []=(l.map (·.data.toList)).flatten:=by
  unfold Lib.join
  induction l.map (·.data.toList) with
  |nil=>rfl
  |cons x r ih=>cases r<;>simp_all [List.intercalate,List.intersperse]
 rw[this];clear this
 induction l with
 |nil=>simp
 |cons x l ih=>
  have h1:=ih (fun y hy=>h y (List.mem_cons_of_mem _ hy));have h2:=h x (List.mem_cons_self ..);have:x.data.toList.length=x.size:=VL;simp only[List.map_cons,List.flatten_cons,List.length_append,this,List.length_cons];rw[Nat.add_mul];omega
theorem nB(order:List Int):∀(f u:Nat)(l:List ByteArray),(eB order f u l).length<=f
 |0,_,_=>by simp[eB]
 |f+1,u,l=>by
  rw[eB];split
  ·simp
  ·have:=nB order f (u+1) (l.eraseIdx (fT (order.getD u 0) l.length));rw[List.length_cons];omega
theorem isName_size{s:ByteArray}(h:eJ s=true):s.size<=20:=by
 simp[eJ] at h;exact h.2
theorem oP(t:ByteArray)(ht:t.size<=65536):(iK (dO t)).length<=140737488355328:=by
 unfold dO;split
 ·simp[iK]
 ·have vF:=trim_size t;have hcnt:=Lib.countB_le nl VI t.size _ vF;have hl:=linesOf_length t
  have h:=kT (fB (lQ t)) 65536 (fun x hx=>by
   have:=splitB_size nl _ _ x (kL hx)
   omega)
  rw[eQ] at h;have:(lQ t).length*(65536+1)<=65537*65537:=Nat.mul_le_mul VG VG;omega
def StrsOff(b:Nat)(w:World)(v:Value)(l:List ByteArray):Prop:=Strs w v l/\∀a n c,v=.slice (some a) n c->l≠[]->b<a.block
theorem StrsOff.only{b:Nat}{w w':World}{v:Value}{l:List ByteArray}(h:StrsOff b w v l)(ho:bL b w w'):StrsOff b w' v l:=by
 refine⟨?_,h.2⟩;obtain⟨a,c,hv,h1,h2,h3⟩:=h.1;refine⟨a,c,hv,h1,h2,fun pQ=>?_⟩;obtain⟨b',o',ha,hc⟩:=h3 pQ;refine⟨b',o',ha,fun i x' hx=>?_⟩;obtain⟨cs,e,hl,hj⟩:=hc i x' hx;exact⟨cs,e,hl,fun j u hu=>ho.cell (Nat.ne_of_gt (h.2 ⟨b',o',none⟩ l.length c (by rw[hv,ha]) pQ)) (hj j u hu)⟩
def IntsOff(b:Nat)(w:World)(v:Value)(l:List Int):Prop:=gN w v l/\∀a n c,v=.slice (some a) n c->l≠[]->a.block≠b
theorem IntsOff.only{b:Nat}{w w':World}{v:Value}{l:List Int}(h:IntsOff b w v l)(ho:bL b w w'):IntsOff b w' v l:=by
 refine⟨?_,h.2⟩;obtain⟨a,c,hv,h1,h2,h3⟩:=h.1;refine⟨a,c,hv,h1,h2,fun pQ=>?_⟩;obtain⟨b',o',ha,hc⟩:=h3 pQ;refine⟨b',o',ha,fun i x' hx=>?_⟩;obtain⟨cs,e,hl,hj⟩:=hc i x' hx;exact⟨cs,e,hl,fun j u hu=>ho.cell (h.2 ⟨b',o',none⟩ l.length c (by rw[hv,ha]) pQ) (hj j u hu)⟩
theorem dS{s:Stp}(h:aM s=true):(∀x,x∈s.src->eJ x=true)/\eJ s.out=true/\s.src.length<=60/\
  (s.kind=2\/s.kind=1/\s.sorted=false\/(s.kind=0\/s.kind=3\/s.kind=4\/s.kind=5)/\s.src.length=1/\s.sorted=false):=by
 unfold aM at h;split at h
 ·cases h
 ·rename_i h0
  have h0':eJ s.out=true/\∀x,x∈s.src->eJ x=true:=by
   simp at h0;exact⟨h0.1,fun x hx=>by simpa using h0.2 x hx⟩
  refine⟨h0'.2,h0'.1,?_⟩;split at h
  ·rename_i h2;simp at h;exact⟨h,.inl h2⟩
  ·split at h
   ·rename_i h1;simp at h;exact⟨h.1,.inr (.inl ⟨h1,h.2⟩)⟩
   ·split at h
    ·rename_i h3;simp at h;exact⟨VG,.inr (.inr ⟨h3,h.1,h.2⟩)⟩
    ·cases h
structure WriteIn (s:Stp) (saw:List ByteArray) (clock order:List Int) (b:Nat) (vs clk ord nxt vf:Value) (u0 u1:Int) (w:World):Prop where
 hglob:dH w
 hb:11<=b
 hsbx:Sbx w b vs clk ord nxt u0 u1
 hsaw:StrsOff b w vs saw
 hclk:IntsOff b w clk clock
 hord:IntsOff b w ord order
 hsrc:Strs w vf s.src
 hright:aM s=true
 htexts:∀x,x∈saw->x.size<=65536
 hlen:saw.length=s.src.length
 hu0:0<=u0/\u0<=1152921504606846976
 hu1:0<=u1/\u1<=1152921504606846976
 hcwf:∀x,x∈clock->(Lit.int .i64 x).wf=true
 howf:∀x,x∈order->(Lit.int .i64 x).wf=true
theorem write_any(s:Stp)(saw:List ByteArray)(clock order:List Int)(b:Nat)(vs clk ord nxt vf:Value)(u0 u1:Int)(w:World)(h:WriteIn s saw clock order b vs clk ord nxt vf u0 u1 w)(h5:s.kind≠5):
  Calls Tryz.prog 52 #[.pointer (some ⟨b,0,none⟩),.agg #[.int .i64 s.kind,vf,.string s.out,.bool s.sorted]] w fun e w'=>∃vs',
   e=.returned (.tuple #[.string (bG s saw clock order u0 u1).1,.int .i64 0])/\Sbx w' b vs' clk ord nxt (bG s saw clock order u0 u1).2.2.1 (bG s saw clock order u0 u1).2.2.2/\
   StrsOff b w' vs' (bG s saw clock order u0 u1).2.1/\bL b w w':=by
 obtain⟨hn,hout,hl,hk⟩:=dS h.hright;have hf:∃a n c,vf=.slice a n c:=by obtain⟨a,c,hv,-⟩:=h.hsrc;exact⟨a,_,c,hv⟩
 obtain⟨kind,src,out,sorted⟩:=s;simp only at hn hout hl hk h5 hf ⊢;by_cases k01:kind=0\/kind=1
 ·have e:bG ⟨kind,src,out,sorted⟩ saw clock order u0 u1=(joinB saw,saw,u0,u1):=by simp[bG,k01]
  rw[e];have hj:=join_length saw 65536 h.htexts;have hlen:saw.length<=60:=by have:=h.hlen;simp only at this;omega
  refine(write_join b saw vs clk ord nxt u0 u1 kind vf out sorted w h.hsbx h.hsaw.1 k01 hf (Nat.le_trans hj VG) VG).mono ?_;exact U0
 by_cases k3:kind=3
 ·subst k3;have e:bG ⟨3,src,out,sorted⟩ saw clock order u0 u1=(rowsB (dO (saw.headD ByteArray.empty)),saw,u0,u1):=by simp[bG]
  rw[e]
  obtain⟨t,rfl⟩:∃t,saw=[t]:=by
   have:=h.hlen;simp only at this;have h1:saw.length=1:=VG;exact List.length_eq_one_iff.1 h1
  have ht:=h.htexts t VL;refine(write_sort b t vs clk ord nxt u0 u1 vf out sorted w h.hglob h.hsbx h.hsaw.1 hf VG (oP t ht)).mono ?_;exact U0
 by_cases k4:kind=4
 ·subst k4;have e:bG ⟨4,src,out,sorted⟩ saw clock order u0 u1=(stampB (saw.headD ByteArray.empty) (clock.getD u0.toNat 0),saw,u0+1,u1):=by simp[bG]
  rw[e]
  obtain⟨t,rfl⟩:∃t,saw=[t]:=by
   have:=h.hlen;simp only at this;have h1:saw.length=1:=VG;exact List.length_eq_one_iff.1 h1
  have ht:=h.htexts t VL;refine(write_stamp b t clock vs clk ord nxt u0 u1 vf out sorted w h.hglob h.hsbx h.hsaw.1 (fun a n c e=>Nat.ne_of_gt (h.hsaw.2 a n c e VL)) h.hclk.1 hf VG h.hu0.1 (by have:=h.hu0.2;omega) h.hb h.hcwf).mono ?_;exact U0
 ·have k2:kind=2:=VG;subst k2;have qX:∀x,x∈src->x.size<=20:=fun x hx=>isName_size (hn x hx);have hsrc:Strs w vf src:=h.hsrc
  cases sorted with
  |true=>
   (have e:bG ⟨2,src,out,true⟩ saw clock order u0 u1=(rowsB (fB src),[],u0,u1):=by simp[bG]);rw[e];have hr:=kT (fB src) 20 (fun x hx=>qX x (kL hx));rw[eQ] at hr;refine(write_list b (fB src) vs clk ord nxt u0 u1 u1 vf out true w h.hsbx hf (fun W hb=>?_) VG).mono ?_
   ·refine(list_sorted b src vf W (hsrc.later hb) VG).mono ?_;rintro e w' ⟨v,rfl,h1,h2,h3⟩;exact⟨v,rfl,h1,h2,(h.hsbx.later hb).later h3,bL.of_below h3⟩
   ·exact UR
  |false=>
   (have e:bG ⟨2,src,out,false⟩ saw clock order u0 u1=(rowsB (eB order src.length u1.toNat (fB src)),[],u0,u1+src.length):=by simp[bG]);rw[e];have hr:=kT (eB order src.length u1.toNat (fB src)) 20 (fun x hx=>qX x (kL (nW hx)));have hpl:=nB order src.length u1.toNat (fB src);have LO:(eB order src.length u1.toNat (fB src)).length*(20+1)<=60*21:=Nat.mul_le_mul VG VG;have hu:=h.hu1;refine(write_list b (eB order src.length u1.toNat (fB src)) vs clk ord nxt u0 u1 (u1+src.length) vf out false w h.hsbx hf (fun W hb=>?_) VG).mono ?_
   ·have GM:Sbx W b vs clk ord nxt u0 ((u1.toNat:Nat):Int):=(h.hsbx.later hb).cast VG;refine(list_picks b vs clk nxt ord u0 u1.toNat order src vf W GM (fun W' ho=>(h.hord.only ((bL.of_below hb).trans ho)).1) (hsrc.later hb) VG VG h.howf).mono ?_;rintro e w' ⟨v,rfl,h1,h2,h3,h4⟩;exact⟨v,rfl,h1,h2,h3.cast VG,h4⟩
   ·exact UR
theorem SO{p:Prop}(h:p:=by
 obtain⟨⟨a1,c1,e1⟩,⟨a2,c2,e2⟩,⟨a3,n3,c3,e3⟩,⟨a4,n4,c4,e4⟩,⟨a5,n5,c5,e5⟩⟩:=mD h
 have HR:Hid (∀W,Below w.heap.size w W->Calls Tryz.prog 24 #[.agg #[.int .i64 s.kind,vf,.string s.out,.bool s.sorted]] W fun e w'=>e=.returned (.bool true)/\Below W.heap.size W w'):=
  zh fun W hb=>uW▸iR s vf W (h.hsrc.later hb) h.hout
 have HF:Hid (∀W,Below w.heap.size w W->Calls Tryz.prog 51 #[vl] W fun e w'=>e=.returned (.bool true)/\Below W.heap.size W w'):=
  zh fun W hb=>uV▸gV files vl W (h.hfil.later hb)
 have J7:Hid (∀W x,Below w.heap.size w W->Calls Tryz.prog 21 #[vl,.string x] W fun e w'=>e=.returned (jX files x)/\Below W.heap.size W w'):=
  zh fun W x hb=>find_any files vl x W (h.hfil.later hb)
 have yJ:=zh h;obtain⟨kind,src,out,sorted⟩:=s;have hu0:=h.hu0;have hu1:=h.hu1;clear h;simp only at e1;subst e1 e2 e3 e4 e5;unfold nJ;simp only at HR HF ⊢;have qT:=gH.made w kind (.slice a1 src.length c1) out sorted (.slice a3 n3 c3) (.slice a4 n4 c4) (.slice a5 n5 c5) u0 u1;have sG:=zh qT;clear qT uW uV;simp only at HT;go_enter Tryz.func17,Tryz.ntmps17;go_wp2_with fail;refine(HR.out _ sG.out.below).mono ?_;rintro e w1 ⟨rfl,pS⟩;have qQ:=zh (sG.out.later pS);clear sG pS;go_wp2_with fail;refine(HF.out _ qQ.out.below).mono ?_;rintro e w2 ⟨rfl,pR⟩;have qM:=zh (qQ.out.later pR);clear qQ pR;obtain⟨s0,s1,s2,s3,y0,y1,y2,x0,x1,r0,r1,f0,f1⟩:=qM.out.cells;go_wp2_with fail;refine(J7.out _ _ qM.out.below).mono ?_;rw[HT.out];rintro e w3 ⟨rfl,rD⟩;have vJ:=zh (qM.out.later rD);clear qM rD s0 s1 s2 s3 y0 y1 y2 x0 x1 r0 r1 f0 f1;obtain⟨s0,s1,s2,s3,y0,y1,y2,x0,x1,r0,r1,f0,f1⟩:=vJ.out.cells;go_wp2_with fail;go_region
 go_wp2_with fail
 exact vJ.out.err rfl rfl rfl rfl rfl fun W' hW=>⟨rfl,hW⟩):p:=h
theorem TI{p:Prop}(h:p:=by
 clear rH;go_enter Tryz.func17,Tryz.ntmps17;go_wp2_with fail;refine(HR.out _ sG.out.below).mono ?_;rintro e w1 ⟨rfl,pS⟩;have qQ:=zh (sG.out.later pS);clear sG pS;go_wp2_with fail;refine(HF.out _ qQ.out.below).mono ?_;rintro e w2 ⟨rfl,pR⟩;have qM:=zh (qQ.out.later pR);clear qQ pR;obtain⟨-,-,-,-,-,-,-,x0,x1,r0,r1,f0,f1⟩:=qM.out.cells;go_wp2_with fail;go_region
 go_wp2_with fail
 exact qM.out.err rfl rfl rfl rfl rfl fun W' hW=>⟨rfl,hW⟩):p:=h
theorem res_cells{w:World}{b:Nat}{u v x y:Value}(h0:w.cell? ⟨b,0,none⟩=some x)(h1:w.cell? ⟨b,1,none⟩=some y):
  ((w.setCell ⟨b,0,none⟩ u).setCell ⟨b,1,none⟩ v).drew.cell? ⟨b,0,none⟩=some u/\((w.setCell ⟨b,0,none⟩ u).setCell ⟨b,1,none⟩ v).drew.cell? ⟨b,1,none⟩=some v:=by
 obtain⟨c,e,fr,hb,hc0⟩:=Sort.cells_of_cell? h0;obtain⟨c',e',fr',qU,GR⟩:=Sort.cells_of_cell? h1;rw[hb] at qU;cases qU;have i0:0<c.size:=by rcases Nat.lt_or_ge 0 c.size with h|h;exact h;rw[Array.getElem?_eq_none h] at hc0;cases hc0
 have i1:1<c.size:=by rcases Nat.lt_or_ge 1 c.size with h|h;exact h;rw[Array.getElem?_eq_none h] at GR;cases GR
 have hH:((w.setCell ⟨b,0,none⟩ u).setCell ⟨b,1,none⟩ v).drew.heap[b]? =some (.cells ((c.setIfInBounds 0 u).setIfInBounds 1 v) e fr):=by
  show((w.setCell ⟨b,0,none⟩ u).setCell ⟨b,1,none⟩ v).heap[b]? =_;simp[World.setCell,Array.getElem?_modify,hb]
 constructor
 ·simp only[World.cell?,hH];simp[i0]
 ·simp only[World.cell?,hH];simp[i1]
structure DoIn (s:Stp) (files:List Fil) (clock order:List Int) (vf vl vc vo vn:Value) (u0 u1:Int) (w:World):Prop where
 hglob:dH w
 hsrc:Strs w vf s.src
 hout:s.out.size<=140737488355328
 hfil:iB w vl files
 hclk:gN w vc clock
 hord:gN w vo order
 hnxt:∃a n c,vn=.slice a n c
 hu0: -9223372036854775808<=u0/\u0<=1152921504606846976
 hu1: -9223372036854775808<=u1/\u1<=1152921504606846976
 hcwf:∀x,x∈clock->(Lit.int .i64 x).wf=true
 howf:∀x,x∈order->(Lit.int .i64 x).wf=true
abbrev nJ(s:Stp)(vf vl vc vo vn:Value)(u0 u1:Int):Array Value:=
 #[.agg #[.int .i64 s.kind,vf,.string s.out,.bool s.sorted],vl,.agg #[vc,vo,vn],.agg #[.int .i64 u0,.int .i64 u1]]
abbrev doErr(u0 u1 e:Int):Value:=.tuple #[.slice none 0 0,.slice none 0 0,.agg #[.int .i64 u0,.int .i64 u1],.int .i64 e]
theorem mD{s:Stp}{files:List Fil}{clock order:List Int}{vf vl vc vo vn:Value}{u0 u1:Int}{w:World}(h:DoIn s files clock order vf vl vc vo vn u0 u1 w):
  (∃a c,vf=.slice a s.src.length c)/\(∃a c,vl=.slice a files.length c)/\(∃a n c,vc=.slice a n c)/\(∃a n c,vo=.slice a n c)/\(∃a n c,vn=.slice a n c):=by
 obtain⟨a1,c1,h1,-⟩:=h.hsrc;obtain⟨a2,c2,h2,-⟩:=h.hfil;obtain⟨a3,c3,h3,-⟩:=h.hclk;obtain⟨a4,c4,h4,-⟩:=h.hord;exact⟨⟨a1,c1,h1⟩,⟨a2,c2,h2⟩,⟨a3,_,c3,h3⟩,⟨a4,_,c4,h4⟩,h.hnxt⟩
structure gH (w W:World) (kind:Int) (vf:Value) (out:ByteArray) (sorted:Bool) (vc vo vn:Value) (u0 u1:Int):Prop where
 bs:W.heap[w.heap.size]? =some (.cells #[.int .i64 kind,vf,.string out,.bool sorted] 24 (0,0))
 bw:W.heap[w.heap.size+1]? =some (.cells #[vc,vo,vn] 28 (0,0))
 bu:W.heap[w.heap.size+1+1]? =some (.cells #[.int .i64 u0,.int .i64 u1] 31 (0,0))
 br:W.heap[w.heap.size+1+1+1]? =some (.cells #[.int .i64 0,.int .i64 0] 31 (0,0))
 below:Below w.heap.size w W
theorem gS{W:World}{k:Nat}{o:Obj}(h:W.heap[k]? =some o):k<W.heap.size:=(Array.getElem?_eq_some_iff.1 h).1
theorem gH.made(w:World)(kind:Int)(vf:Value)(out:ByteArray)(sorted:Bool)(vc vo vn:Value)(u0 u1:Int):
  gH w ((((w.alloc (.cells #[.int .i64 kind,vf,.string out,.bool sorted] 24)).alloc (.cells #[vc,vo,vn] 28)).alloc (.cells #[.int .i64 u0,.int .i64 u1] 31)).alloc (.cells #[.int .i64 0,.int .i64 0] 31)) kind vf out sorted vc vo vn u0 u1:=by
 refine⟨?_,?_,?_,?_,((((Below.refl _ w).alloc (Nat.le_refl _) _).alloc VL _).alloc VZ _).alloc VZ _⟩
 ·rw[Below.heap_alloc _ _ _ VZ,Below.heap_alloc _ _ _ VZ,Below.heap_alloc _ _ _ VL,aN]
 ·rw[Below.heap_alloc _ _ _ VL,Below.heap_alloc _ _ _ VL];have h:=aN (w.alloc (.cells #[.int .i64 kind,vf,.string out,.bool sorted] 24)) (.cells #[vc,vo,vn] 28);simpa only[World.size_alloc] using h
 ·rw[Below.heap_alloc _ _ _ VL];have h:=aN ((w.alloc (.cells #[.int .i64 kind,vf,.string out,.bool sorted] 24)).alloc (.cells #[vc,vo,vn] 28)) (.cells #[.int .i64 u0,.int .i64 u1] 31);simpa only[World.size_alloc] using h
 ·have h:=aN (((w.alloc (.cells #[.int .i64 kind,vf,.string out,.bool sorted] 24)).alloc (.cells #[vc,vo,vn] 28)).alloc (.cells #[.int .i64 u0,.int .i64 u1] 31)) (.cells #[.int .i64 0,.int .i64 0] 31);simpa only[World.size_alloc] using h
section
variable {w W W':World} {kind:Int} {vf:Value} {out:ByteArray} {sorted:Bool} {vc vo vn:Value} {u0 u1:Int}
theorem gH.later(h:gH w W kind vf out sorted vc vo vn u0 u1)(hb:Below W.heap.size W W'):gH w W' kind vf out sorted vc vo vn u0 u1:=
 ⟨(hb.block _ (gS h.bs)).trans h.bs,(hb.block _ (gS h.bw)).trans h.bw,(hb.block _ (gS h.bu)).trans h.bu,(hb.block _ (gS h.br)).trans h.br,aB h.below hb⟩
theorem gH.only{b:Nat}(h:gH w W kind vf out sorted vc vo vn u0 u1)(hb:bL b W W')(uM:w.heap.size+1+1+1<b):gH w W' kind vf out sorted vc vo vn u0 u1:=
 ⟨(hb.block _ (gS h.bs) VG).trans h.bs,(hb.block _ (gS h.bw) VG).trans h.bw,(hb.block _ (gS h.bu) VG).trans h.bu,(hb.block _ (gS h.br) VG).trans h.br,hb.below h.below VG (by have:=gS h.bs;omega)⟩
theorem gH.cells(h:gH w W kind vf out sorted vc vo vn u0 u1):
  W.cell? ⟨w.heap.size,0,none⟩=some (.int .i64 kind)/\W.cell? ⟨w.heap.size,1,none⟩=some vf/\W.cell? ⟨w.heap.size,2,none⟩=some (.string out)/\W.cell? ⟨w.heap.size,3,none⟩=some (.bool sorted)/\
  W.cell? ⟨w.heap.size+1,0,none⟩=some vc/\W.cell? ⟨w.heap.size+1,1,none⟩=some vo/\W.cell? ⟨w.heap.size+1,2,none⟩=some vn/\
  W.cell? ⟨w.heap.size+1+1,0,none⟩=some (.int .i64 u0)/\W.cell? ⟨w.heap.size+1+1,1,none⟩=some (.int .i64 u1)/\
  W.cell? ⟨w.heap.size+1+1+1,0,none⟩=some (.int .i64 0)/\W.cell? ⟨w.heap.size+1+1+1,1,none⟩=some (.int .i64 0)/\
  W.frozen? ⟨w.heap.size+1+1+1,0,none⟩=false/\W.frozen? ⟨w.heap.size+1+1+1,1,none⟩=false:=by
 obtain⟨h1,h2,h3,h4,-⟩:=h;refine⟨?_,?_,?_,?_,?_,?_,?_,?_,?_,?_,?_,?_,?_⟩<;>simp[World.cell?,World.frozen?,h1,h2,h3,h4]
theorem gH.err{e:Int}{a:Act}(h:gH w W kind vf out sorted vc vo vn u0 u1)(h8:a.tmps[8]?.getD undef=.slice none 0 0)(h9:a.tmps[9]?.getD undef=.slice none 0 0)(CS:a.tmps[10]?.getD undef=.pointer (some ⟨w.heap.size+1+1+1,0,none⟩))(h11:a.tmps[11]?.getD undef=.int .i64 e)(hd:a.defers=[]){R:Ending->World->Prop}
  (hR:∀W',Below w.heap.size w W'->R (.returned (doErr u0 u1 e)) W'):
  bodyPost Tryz.prog Tryz.f17 R .ret a ((W.setCell ⟨w.heap.size+1+1+1,0,none⟩ (.int .i64 u0)).setCell ⟨w.heap.size+1+1+1,1,none⟩ (.int .i64 u1)).drew:=by
 obtain⟨-,-,-,-,-,-,-,-,-,r0,r1,-,-⟩:=h.cells;have hr:=res_cells (w:=W) (b:=w.heap.size+1+1+1) (u:=.int .i64 u0) (v:=.int .i64 u1) r0 r1;refine bodyPost_ret (v:=doErr u0 u1 e) (by simp[results,Tryz.results17,go_sem,hr.1,hr.2,h8,h9,CS,h11]) hd (hR _ ?_);exact((h.below.setCell VZ _).setCell VZ _).drew
end
theorem do_arg(s:Stp)(files:List Fil)(clock order:List Int)(vf vl vc vo vn:Value)(u0 u1:Int)(w:World)(h:DoIn s files clock order vf vl vc vo vn u0 u1 w)
  (rH:aM s=false\/aR files=false\/min u0 u1<0):
  Calls Tryz.prog 17 (nJ s vf vl vc vo vn u0 u1) w fun e w'=>e=.returned (doErr u0 u1 1)/\Below w.heap.size w w':=by
 obtain⟨⟨a1,c1,e1⟩,⟨a2,c2,e2⟩,⟨a3,n3,c3,e3⟩,⟨a4,n4,c4,e4⟩,⟨a5,n5,c5,e5⟩⟩:=mD h
 have HR:Hid (∀W,Below w.heap.size w W->Calls Tryz.prog 24 #[.agg #[.int .i64 s.kind,vf,.string s.out,.bool s.sorted]] W fun e w'=>e=.returned (.bool (aM s))/\Below W.heap.size W w'):=
  zh fun W hb=>iR s vf W (h.hsrc.later hb) h.hout
 have HF:Hid (∀W,Below w.heap.size w W->Calls Tryz.prog 51 #[vl] W fun e w'=>e=.returned (.bool (aR files))/\Below W.heap.size W w'):=
  zh fun W hb=>gV files vl W (h.hfil.later hb)
 obtain⟨kind,src,out,sorted⟩:=s;have hu0:=h.hu0;have hu1:=h.hu1;clear h;simp only at e1;subst e1 e2 e3 e4 e5;unfold nJ;simp only at HR HF ⊢;generalize aM ⟨kind,src,out,sorted⟩=r1 at HR rH;generalize aR files=r2 at HF rH;have qT:=gH.made w kind (.slice a1 src.length c1) out sorted (.slice a3 n3 c3) (.slice a4 n4 c4) (.slice a5 n5 c5) u0 u1;have sG:=zh qT;clear qT
 cases r1 with
 |false=>
  clear rH HF;go_enter Tryz.func17,Tryz.ntmps17;go_wp2_with fail;refine(HR.out _ sG.out.below).mono ?_;rintro e w1 ⟨rfl,pS⟩;have qQ:=zh (sG.out.later pS);clear sG pS;obtain⟨-,-,-,-,-,-,-,x0,x1,r0,r1,f0,f1⟩:=qQ.out.cells;go_wp2_with fail;go_region
  go_wp2_with fail;exact qQ.out.err rfl rfl rfl rfl rfl fun W' hW=>⟨rfl,hW⟩
 |true=>
  cases r2 with
  |false=>
   exact TI
  |true=>
   (have wF:min u0 u1<0:=by simpa using rH);exact TI
theorem do_twice(s:Stp)(files:List Fil)(clock order:List Int)(vf vl vc vo vn:Value)(u0 u1:Int)(w:World)(h:DoIn s files clock order vf vl vc vo vn u0 u1 w)
  (uW:aM s=true) (uV:aR files=true) (wF:¬min u0 u1<0) (t:ByteArray) (ht:aJ files s.out=some t):
  Calls Tryz.prog 17 (nJ s vf vl vc vo vn u0 u1) w fun e w'=>e=.returned (doErr u0 u1 5)/\Below w.heap.size w w':=by
 have HT:=zh (show jX files s.out=.tuple #[.string t,.bool true] by unfold jX;rw[ht]);clear ht;exact SO
theorem do_full(s:Stp)(files:List Fil)(clock order:List Int)(vf vl vc vo vn:Value)(u0 u1:Int)(w:World)(h:DoIn s files clock order vf vl vc vo vn u0 u1 w)
  (uW:aM s=true) (uV:aR files=true) (wF:¬min u0 u1<0) (ht:aJ files s.out=none) (uX:60<=files.length):
  Calls Tryz.prog 17 (nJ s vf vl vc vo vn u0 u1) w fun e w'=>e=.returned (doErr u0 u1 6)/\Below w.heap.size w w':=by
 have HT:=zh (show jX files s.out=.tuple #[.string ByteArray.empty,.bool false] by unfold jX;rw[ht]);clear ht;exact SO
end Go.Proofs.YtacgopankhpnbaaGreatDoor
