/- Texts of this seat, joined. -/
import Derived.Deep.RegionHeld3
import Derived.Test.YtacgopankhpnbaaGreatDoorTQM
set_option maxHeartbeats 4000000
set_option maxRecDepth 100000
set_option linter.unusedVariables false
set_option linter.unusedSimpArgs false
namespace Go.Proofs.YtacgopankhpnbaaGreatDoor
open Go.RowKit
structure Boxes (vi vs:Value) (out:bA) (bw bi bm ps pg pv:Nat) (w:World):Prop where
 st:w.heap[ps]? =some (.cells #[.map (some bm)] 192)
 gr:w.heap[pg]? =some (cD vi vs out bw bi)
 fn:w.heap[pv]? =some (.cells #[.func (.func 119) #[] #[.pointer (some ⟨ps,0,none⟩),.pointer (some ⟨pg,0,none⟩),.pointer (some ⟨pv,0,none⟩)]] 97)
structure Circ (L:List (Value×Stp)) (vi vs:Value) (out:bA) (bw bi bm ps pg pv nw:Nat) (w:World) (st:fE):Prop where
 boxes:Boxes vi vs out bw bi bm ps pg pv w
 stps:pZ w vs L
 wr:aX eQ vInt w bw nw (lP (L.map (·.2)))
 ne:bw≠bm
 marks:∃n m,aX kInt vInt w bm n m/\n+pot st L.length<=1000000/\∀i:Nat,(m i).getD 0=st i
section
variable {L:List (Value×Stp)} {vi vs:Value} {out:bA} {bw bi bm ps pg pv nw:Nat} {w w':World} {st st':fE}
theorem Circ.isMap(h:Circ L vi vs out bw bi bm ps pg pv nw w st):dG w bm:=by obtain⟨n,m,h1,-⟩:=h.marks;exact dG.of h1
theorem Circ.later(h:Circ L vi vs out bw bi bm ps pg pv nw w st)(hb:Below w.heap.size w w'):Circ L vi vs out bw bi bm ps pg pv nw w' st:=by
 obtain⟨n,m,h1,h2,h3⟩:=h.marks;have hx:∀{k:Nat}{o:Obj},w.heap[k]? =some o->w'.heap[k]? =some o:=fun hk=>(hb.block _ (Array.getElem?_eq_some_iff.1 hk).1).trans hk;exact⟨⟨hx h.boxes.st,hx h.boxes.gr,hx h.boxes.fn⟩,h.stps.later hb,h.wr.later hb,h.ne,n,m,h1.later hb,h2,h3⟩
theorem Circ.cells(h:Circ L vi vs out bw bi bm ps pg pv nw w st):w.cell? ⟨ps,0,none⟩=some (.map (some bm))/\
  (w.cell? ⟨pg,0,none⟩=some vi/\w.cell? ⟨pg,1,none⟩=some vs/\w.cell? ⟨pg,2,none⟩=some (.string out)/\w.cell? ⟨pg,3,none⟩=some (.map (some bw))/\w.cell? ⟨pg,4,none⟩=some (.map (some bi)))/\
  w.cell? ⟨pv,0,none⟩=some (.func (.func 119) #[] #[.pointer (some ⟨ps,0,none⟩),.pointer (some ⟨pg,0,none⟩),.pointer (some ⟨pv,0,none⟩)]):=
 ⟨box1 h.boxes.st,box5 h.boxes.gr,box1 h.boxes.fn⟩
theorem nat_wf{i:Nat}(h:i<9223372036854775808):(Lit.int .i64 (i:Int)).wf=true:=by
 have:decide (IntKind.i64.min<=(i:Int))=true/\decide ((i:Int)<=IntKind.i64.max)=true:=⟨decide_eq_true (by show(-9223372036854775808:Int)<=_;omega),decide_eq_true (by show _<=(9223372036854775807:Int);omega)⟩;simp only[Lit.wf,this.1,this.2,Bool.and_self]
theorem wf1:(Lit.int .i64 1).wf=true:=aAO
theorem wf2:(Lit.int .i64 2).wf=true:=aAO
theorem Circ.look(h:Circ L vi vs out bw bi bm ps pg pv nw w st){i:Nat}(hi:i<9223372036854775808):(Instr.lookup 192 (.map (some bm)) (.int .i64 i) false).run Tryz.prog w=.ok (.int .i64 (st i)) w:=by
 obtain⟨n,m,h1,-,h3⟩:=h.marks;have:=h1.look Tryz.underlying192 (x:=(i:Int)) (nat_wf hi);rw[show(m i).getD vInt.zero=st i from h3 i] at this;exact this
open Classical in
theorem Circ.set(h:Circ L vi vs out bw bi bm ps pg pv nw w st){i:Nat}{x:Int}(hi:i<L.length)(hx:(st i=0/\x=1)\/(st i=1/\x=2))(hl:L.length<=1000000):
  ∃w',(Instr.mapUpdate 192 (.map (some bm)) (.int .i64 i) (.int .i64 x)).run Tryz.prog w=.ok () w'/\Circ L vi vs out bw bi bm ps pg pv nw w' (kW st i x)/\bS bm w w':=by
 obtain⟨n,m,h1,h2,h3⟩:=h.marks;have hp:=pot_mark hx L.length hi;obtain⟨w',tW,hm',hg⟩:=h1.store Tryz.underlying192 aAY (x:=(i:Int)) (nat_wf aAM) (y:=x) (by rcases hx with⟨-,rfl⟩|⟨-,rfl⟩;exact wf1;exact wf2);have ho:=iJ hg;have hM:=h.isMap;refine⟨w',tW,⟨⟨hM.box ho h.boxes.st,hM.box ho h.boxes.gr,hM.box ho h.boxes.fn⟩,h.stps.onlyMap hM ho,h.wr.of_block (ho.block _ h.wr.lt h.ne),h.ne,n+1,_,hm',aAM,fun j=>?_⟩,ho⟩;by_cases hj:j=i
 ·subst hj;simp[kW]
 have:¬(j:Int)=i:=aAM;simp only[this,if_false,kW,hj];exact h3 j
abbrev visitCap(ps pg pv:Nat):Array Value:=#[.pointer (some ⟨ps,0,none⟩),.pointer (some ⟨pg,0,none⟩),.pointer (some ⟨pv,0,none⟩)]
theorem enters_visit:∀args w,(callFunc 119 args).run Tryz.prog w=.ok (.enter 119 args) w:=enters_of Tryz.func119 aAN rfl
def VisitPost(L:List (Value×Stp))(vi vs:Value)(out:bA)(bw bi bm ps pg pv nw:Nat)(w:World)(r:fE×Bool)(e:Ending)(w':World):Prop:=
 e=.returned (.bool r.2)/\Circ L vi vs out bw bi bm ps pg pv nw w' r.1/\bS bm w w'
def VisitOk(L:List (Value×Stp))(vi vs:Value)(out:bA)(bw bi bm ps pg pv nw f:Nat):Prop:=
 ∀(w:World)(st:fE)(i:Nat),Circ L vi vs out bw bi bm ps pg pv nw w st->i<L.length->lD st L.length<f->
  Calls Tryz.prog 119 #[.int .i64 i,.pointer (some ⟨ps,0,none⟩),.pointer (some ⟨pg,0,none⟩),.pointer (some ⟨pv,0,none⟩)] w (VisitPost L vi vs out bw bi bm ps pg pv nw w (gF (bL (L.map (·.2))) f st i))
theorem visit_search{f:Nat}(ih:VisitOk L vi vs out bw bi bm ps pg pv nw f){l:List Nat}{v:Value}(hl:∀j,j∈l->j<L.length)(h:Circ L vi vs out bw bi bm ps pg pv nw w st)(hI:hJ w v (aU l))(hz:lD st L.length<f):
  Calls Tryz.prog 61 #[v,.func (.func 119) #[] (visitCap ps pg pv)] w (VisitPost L vi vs out bw bi bm ps pg pv nw w (lS (gF (bL (L.map (·.2))) f) st l)):=by
 refine(rV _ _ (gF (bL (L.map (·.2))) f) l v (fun W s=>Circ L vi vs out bw bi bm ps pg pv nw W s/\bS bm w W/\lD s L.length<f) w st ⟨h,bS.refl _ _,hz⟩ ⟨fun W s hs=>hI.onlyMap h.isMap hs.2.1,enters_visit,fun x hx W s hs=>?_⟩).mono ?_
 ·refine(ih W s x hs.1 (hl x hx) hs.2.2).mono ?_;rintro e W' ⟨rfl,h1,h2⟩;exact⟨rfl,h1,hs.2.1.trans h2,Nat.lt_of_le_of_lt (visit_zeros _ _ _ _ _) hs.2.2⟩
 rintro e W' ⟨rfl,h1,h2,-⟩;exact⟨rfl,h1,h2⟩
theorem needsAt_of{y:Value×Stp}{i:Nat}(hy:L[i]? =some y):bL (L.map (·.2)) i=fD (L.map (·.2)) y.2:=by
 unfold bL;rw[List.getElem?_map,hy];rfl
theorem visit_seen{needs:Nat->List Nat}{f i:Nat}(h:st i≠0):gF needs (f+1) st i=(st,decide (st i=1)):=by rw[gF,if_pos h]
theorem visit_true{needs:Nat->List Nat}{f i:Nat}(h:st i=0)(h2:(lS (gF needs f) (kW st i 1) (needs i)).2=true):gF needs (f+1) st i=((lS (gF needs f) (kW st i 1) (needs i)).1,true):=by
 rw[gF,if_neg (by simp[h]),if_pos h2]
theorem visit_false{needs:Nat->List Nat}{f i:Nat}(h:st i=0)(h2:(lS (gF needs f) (kW st i 1) (needs i)).2=false):gF needs (f+1) st i=(kW (lS (gF needs f) (kW st i 1) (needs i)).1 i 2,false):=by
 rw[gF,if_neg (by simp[h]),if_neg (by simp[h2])]
end
theorem visit_any(L:List (Value×Stp))(vi vs:Value)(out:bA)(bw bi bm ps pg pv nw:Nat)(hL:L.length<=1000000)(hs:∀y,y∈L->y.2.src.length<=1000000):∀f,VisitOk L vi vs out bw bi bm ps pg pv nw f
 |0=>fun w st i _ _ h=>absurd h aAM
 |f+1=>by
  have ih:=zh (visit_any L vi vs out bw bi bm ps pg pv nw hL hs f);intro w st i h hi hz;have hl:=h.look (i:=i) aAM;obtain⟨c0,-,-⟩:=h.cells;by_cases h0:st i=0
  ·obtain⟨w1,hu,h1,sJ⟩:=h.set (i:=i) (x:=1) hi (.inl ⟨h0,rfl⟩) hL;obtain⟨y,hy,CE⟩:=getElem?_of_lt hi;have HM:=zh (kV st i 1);have sY:=zeros_mark h0 L.length hi;have sX:lD (kW st i 1) L.length<f:=aAM;have HZ:=zh sX;have HV0:=zh h0;have HN:=zh (needs_any (L.map (·.2)) vi vs out bw bi nw L i y w1.drew (h1.later (Below.refl _ _).drew).stps hy (h1.later (Below.refl _ _).drew).wr (hs y CE));rw[<-needsAt_of hy] at HN;have AN:=zh h1;have XC:=zh sJ;rw[h0] at hl
   have HR:Hid (∀v w2,Below w1.heap.size w1 w2->hJ w2 v (aU (bL (L.map (·.2)) i))->Calls Tryz.prog 61 #[v,.func (.func 119) #[] (visitCap ps pg pv)] w2 (VisitPost L vi vs out bw bi bm ps pg pv nw w2 (lS (gF (bL (L.map (·.2))) f) (kW st i 1) (bL (L.map (·.2)) i)))):=
    zh fun v w2 hb hI=>visit_search ih.out (fun j hj=>by have:=pL hj;simpa using this) (AN.out.later hb) hI HZ.out
   have HK:=zh (pY (lW (bL (L.map (·.2))) f) (bL (L.map (·.2)) i) (kW st i 1) i (by rw[HM.out];decide));rw[HM.out] at HK;have HT:=zh (fun h2=>visit_true (needs:=bL (L.map (·.2))) (f:=f) HV0.out h2);have HF:=zh (fun h2=>visit_false (needs:=bL (L.map (·.2))) (f:=f) HV0.out h2);generalize lS (gF (bL (L.map (·.2))) f) (kW st i 1) (bL (L.map (·.2)) i)=r at HR HK HT HF;obtain⟨st2,q⟩:=r;have HE:=zh AN.out.cells.2;obtain⟨⟨g0,g1,g2,g3,g4⟩,g5⟩:=HE.out;generalize gF (bL (L.map (·.2))) (f+1) st i=V at HT HF ⊢;generalize bL (L.map (·.2)) i=l at HN HR;clear h h0 hy CE h1 sJ hz sY sX HM HV0 HZ ih hs
   cases q with
   |true=>
    have HV:=zh (HT.out rfl);clear HT HF;go_enter Tryz.func119,Tryz.ntmps119;go_wp2_with fail;clear hl hu c0
    go_region_held3 (fun W=>(W.cell? ⟨pg,0,none⟩=some vi/\W.cell? ⟨pg,1,none⟩=some vs/\W.cell? ⟨pg,2,none⟩=some (.string out)/\W.cell? ⟨pg,3,none⟩=some (.map (some bw))/\W.cell? ⟨pg,4,none⟩=some (.map (some bi)))/\W.cell? ⟨pv,0,none⟩=some (.func (.func 119) #[] #[.pointer (some ⟨ps,0,none⟩),.pointer (some ⟨pg,0,none⟩),.pointer (some ⟨pv,0,none⟩)]))
     (first|(with_reducible exact HE.out)|(with_reducible exact AW.out)|(with_reducible exact HE3.out)|go_keep)
     (first|(go_at_call 67;(with_reducible refine HN.out.mono ?_);rintro e w2 ⟨v,rfl,hI,-,hb⟩;have HB:Hid (Below w1.heap.size w1 w2):=zh ((Below.refl _ w1).drew.trans hb);have AW:=zh (AN.out.later HB.out).cells.2;have HI:=zh hI;clear hI hb)|(have _g:=HB;go_at_call 61;(with_reducible refine(HR.out v w2 HB.out HI.out).mono ?_);rintro e w3 ⟨rfl,FG,sL⟩;have HE3:=zh FG.cells.2;have SK:=zh FG;have LY:=zh sL;clear FG sL))
    all_goals
     go_wp2_with fail;go_ret;refine⟨by rw[HV.out];rfl,by rw[HV.out];exact SK.out,?_⟩;exact(XC.out.trans (bS.of_below HB.out)).trans LY.out
   |false=>
    have HV:=zh (HF.out rfl);clear HT HF;go_enter Tryz.func119,Tryz.ntmps119;go_wp2_with fail;clear hl hu c0
    go_region_held3 (fun W=>(W.cell? ⟨pg,0,none⟩=some vi/\W.cell? ⟨pg,1,none⟩=some vs/\W.cell? ⟨pg,2,none⟩=some (.string out)/\W.cell? ⟨pg,3,none⟩=some (.map (some bw))/\W.cell? ⟨pg,4,none⟩=some (.map (some bi)))/\W.cell? ⟨pv,0,none⟩=some (.func (.func 119) #[] #[.pointer (some ⟨ps,0,none⟩),.pointer (some ⟨pg,0,none⟩),.pointer (some ⟨pv,0,none⟩)]))
     (first|(with_reducible exact HE.out)|(with_reducible exact AW.out)|(with_reducible exact HE3.out)|go_keep)
     (first|(go_at_call 67;(with_reducible refine HN.out.mono ?_);rintro e w2 ⟨v,rfl,hI,-,hb⟩;have HB:Hid (Below w1.heap.size w1 w2):=zh ((Below.refl _ w1).drew.trans hb);have AW:=zh (AN.out.later HB.out).cells.2;have HI:=zh hI;clear hI hb)|(have _g:=HB;go_at_call 61;(with_reducible refine(HR.out v w2 HB.out HI.out).mono ?_);rintro e w3 ⟨rfl,FG,sL⟩;have HE3:=zh FG.cells.2;have SK:=zh FG;have LY:=zh sL;clear FG sL))
    all_goals
     obtain⟨w4,hu4,h4,sI⟩:=SK.out.set (i:=i) (x:=2) hi (.inr ⟨HK.out,rfl⟩) hL;obtain⟨d0,-,-⟩:=SK.out.cells;have UP:=zh h4;have JX:=zh sI;clear h4 sI;go_wp2_with fail;go_ret;refine⟨by rw[HV.out];rfl,by rw[HV.out];exact UP.out,?_⟩;exact((XC.out.trans (bS.of_below HB.out)).trans LY.out).trans JX.out
  have HV:=zh (visit_seen (needs:=bL (L.map (·.2))) (f:=f) h0);have HC:=zh h;have ES:(st i==0)=false:=beq_eq_false_iff_ne.2 h0;have sF:(st i != 0)=true:=by rw[bne_iff_ne];exact h0
  rw[HV.out];unfold VisitPost;generalize hx:st i=x at hl ES sF ⊢;clear hx h h0 hz HV ih hs;go_enter Tryz.func119,Tryz.ntmps119;go_wp2_with fail;go_ret;exact⟨aF (by rw[Bool.eq_iff_iff];simp),HC.out,bS.refl _ _⟩
end Go.Proofs.YtacgopankhpnbaaGreatDoor
namespace Go.Proofs.YtacgopankhpnbaaGreatDoor
open Go.RowKit
theorem join_any(l:List bA)(v:Value)(w:World)(hv:Strs w v l)(hlen:(Lib.join (l.map (·.data.toList)) []).length<=140737488355328)(hl:l.length<=140737488355328):
  Calls Tryz.prog 79 #[v,.string ⟨#[]⟩] w fun e w'=>e=.returned (.string (joinB l))/\Below w.heap.size w w':=by
 rcases hv.cases with⟨rfl,a,c,rfl⟩|⟨b,o,c,rfl,h0,h1,h2,hb,hc⟩
 ·refine(Tryz.strings_Join_none a c ⟨#[]⟩ w).mono ?_;rintro e w' ⟨rfl,rfl⟩;exact⟨rfl,Below.refl _ _⟩
 exact Tryz.strings_Join b o c l ⟨#[]⟩ w (fun j x hx=>(hc j x hx).1) hb hl h1 hlen
theorem write_join(b:Nat)(saw:List bA)(vs clk ord nxt:Value)(u0 u1 kind:Int)(vf:Value)(tn:bA)(sorted:Bool)(w:World)(hs:Sbx w b vs clk ord nxt u0 u1)(hsaw:Strs w vs saw)
  (hk:kind=0\/kind=1) (hf:∃a n c,vf=.slice a n c) (hlen:(Lib.join (saw.map (·.data.toList)) []).length<=140737488355328) (hl:saw.length<=140737488355328):
  Calls Tryz.prog 52 #[.pointer (some ⟨b,0,none⟩),nY kind vf tn sorted] w fun e w'=>
   e=.returned (.tuple #[.string (joinB saw),.int .i64 0])/\Sbx w' b vs clk ord nxt u0 u1/\bS b w w':=by
 obtain⟨a,n,c,rfl⟩:=hf;have c0:=hs.cell 0;have uZ:=hs.lt;simp only[List.getElem?_toArray,List.getElem?_cons_zero] at c0;have HS:=zh hs;clear hs;have HJ:Hid (∀W,Below w.heap.size w W->Calls Tryz.prog 79 #[vs,.string ⟨#[]⟩] W fun e w'=>e=.returned (.string (joinB saw))/\Below W.heap.size W w'):=zh fun W hb=>join_any saw vs W (hsaw.later hb) hlen hl;obtain⟨a1,c1,MM,-⟩:=id hsaw;clear hsaw hlen hl;subst MM;rcases hk with rfl|rfl
 all_goals
  go_enter Tryz.func52,Tryz.ntmps52;go_wp2_with fail;refine(HJ.out _ (aA _ _)).mono ?_;rintro e w' ⟨rfl,hb⟩;have sD:=aB (aA _ _) hb;go_wp2_with fail;go_ret2;exact⟨rfl,HS.out.later sD,bS.of_below sD⟩
theorem write_sort(b:Nat)(text:bA)(vs clk ord nxt:Value)(u0 u1:Int)(vf:Value)(tn:bA)(sorted:Bool)(w:World)(hG:dL w)(hs:Sbx w b vs clk ord nxt u0 u1)(hsaw:Strs w vs [text])
  (hf:∃a n c,vf=.slice a n c) (ht:text.size<=1000000) (hlen:(jM (eF text)).length<=140737488355328):
  Calls Tryz.prog 52 #[.pointer (some ⟨b,0,none⟩),nY 3 vf tn sorted] w fun e w'=>
   e=.returned (.tuple #[.string (rE (eF text)),.int .i64 0])/\Sbx w' b vs clk ord nxt u0 u1/\bS b w w':=by
 obtain⟨a,n,c,rfl⟩:=hf;have c0:=hs.cell 0;have uZ:=hs.lt;simp only[List.getElem?_toArray,List.getElem?_cons_zero] at c0;have HS:=zh hs;clear hs;rcases hsaw.cases with⟨h,-⟩|⟨bl,o,c1,rfl,h0,h1,h2,hb,hc⟩
 ·cases h
 have c2:=(hc 0 text rfl).1;simp only[Nat.add_zero,List.length_cons,List.length_nil,Nat.zero_add] at c2 c0 h1 ⊢;have sD:bl<w.heap.size:=hb;have HSo:Hid (∀W,Below w.heap.size w W->Calls Tryz.prog 81 #[.string text] W fun e w'=>∃v,e=.returned v/\Strs w' v (eF text)/\Below W.heap.size W w'):=zh fun W hb=>sorted_any text W (hG.later hb) ht;have HR:Hid (∀W v,Strs W v (eF text)->Calls Tryz.prog 80 #[v] W fun e w'=>e=.returned (.string (rE (eF text)))/\Below W.heap.size W w'):=zh fun W v h=>rows_any _ v W h hlen;clear hsaw hc hG hb hlen;go_enter Tryz.func52,Tryz.ntmps52;go_wp2_with fail;refine(HSo.out _ (aA _ _)).mono ?_;rintro e w1 ⟨v,rfl,hv,sF⟩;have HV:=zh hv;obtain⟨a3,c3,hv3,-⟩:=hv;subst hv3;go_wp2_with fail;refine(HR.out _ _ HV.out).mono ?_;rintro e w2 ⟨rfl,sD⟩;have wR:=aB (aB (aA _ _) sF) sD;go_wp2_with fail;go_ret2;exact⟨rfl,HS.out.later wR,bS.of_below wR⟩
theorem Sbx.saw0{w:World}{b:Nat}{saw clk ord nxt:Value}{u0 u1:Int}(h:Sbx w b saw clk ord nxt u0 u1)(x:Value):Sbx (w.setCell ⟨b,0,none⟩ x) b x clk ord nxt u0 u1:=by
 unfold Sbx at h ⊢;exact Z1
theorem strs_setCell{w:World}{b o:Nat}{x v:Value}{l:List bA}(h:Strs w v l)(hb:∀a n c,v=.slice (some a) n c->a.block≠b):Strs (w.setCell ⟨b,o,none⟩ x) v l:=by
 obtain⟨a,c,hv,h1,h2,h3⟩:=h;refine⟨a,c,hv,h1,h2,fun sC=>?_⟩;obtain⟨b',o',ha,hc⟩:=h3 sC;refine⟨b',o',ha,fun i x' hx=>?_⟩;obtain⟨cs,e,hl,hj⟩:=hc i x' hx;have wR:=hb ⟨b',o',none⟩ l.length c (by rw[hv,ha]);exact⟨cs,e,hl,fun j u hu=>(World.cell?_of_block (w:=w) (Below.heap_setCell _ _ _ _ wR)).trans (hj j u hu)⟩
theorem write_list(b:Nat)(out:List bA)(vs clk ord nxt:Value)(u0 u u':Int)(vf:Value)(tn:bA)(sorted:Bool)(w:World)(hs:Sbx w b vs clk ord nxt u0 u)
  (hf:∃a n c,vf=.slice a n c)
  (TG:∀W,Below w.heap.size w W->Calls Tryz.prog 87 #[.pointer (some ⟨b,0,none⟩),vf,.bool sorted] W fun e w'=>∃v,e=.returned v/\Strs w' v out/\(∀a n c,v=.slice (some a) n c->W.heap.size<=a.block)/\Sbx w' b vs clk ord nxt u0 u'/\bS b W w')
  (hlen:(jM out).length<=140737488355328):
  Calls Tryz.prog 52 #[.pointer (some ⟨b,0,none⟩),nY 2 vf tn sorted] w fun e w'=>
   e=.returned (.tuple #[.string (rE out),.int .i64 0])/\Sbx w' b (.slice none 0 0) clk ord nxt u0 u'/\bS b w w':=by
 obtain⟨a,n,c,rfl⟩:=hf;have uZ:=hs.lt;have HL:=zh TG;have HR:Hid (∀W v,Strs W v out->Calls Tryz.prog 80 #[v] W fun e w'=>e=.returned (.string (rE out))/\Below W.heap.size W w'):=zh fun W v h=>rows_any _ v W h hlen;clear TG hs hlen;go_enter Tryz.func52,Tryz.ntmps52;go_wp2_with fail;refine(HL.out _ (aA _ _)).mono ?_;rintro e w1 ⟨v,rfl,hv,hvb,LK,hon⟩;have HV:=zh hv;have HSB:=zh LK;have HVB:=zh hvb;have c0:=LK.cell 0;have f0:=LK.frozen 0;simp only[List.getElem?_toArray,List.getElem?_cons_zero] at c0;obtain⟨a3,c3,hv3,-⟩:=id hv;subst hv3;clear hv LK hvb;go_wp2_with fail;refine(HR.out _ _ (strs_setCell HV.out (fun a n c e=>by have:=HVB.out a n c e;simp at this;omega))).mono ?_;rintro e w2 ⟨rfl,sD⟩;go_wp2_with fail;go_ret2;refine⟨rfl,(HSB.out.saw0 _).later sD,?_⟩;exact((bS.of_below (aA _ _)).trans hon).trans ((bS.setCell w1).trans (bS.of_below sD))
theorem wireInt_size(n:Int)(h0: -9223372036854775808<=n)(h1:n<=9223372036854775807):(qE n).size<=100:=by
 have:=Lib.itoa_length_le n h0 h1;show(Lib.itoa n++[59]).toArray.size<=100;simp;omega
theorem write_stamp(b:Nat)(text:bA)(clock:List Int)(vs clk ord nxt:Value)(u0 u1:Int)(vf:Value)(tn:bA)(sorted:Bool)(w:World)(hG:dL w)(hs:Sbx w b vs clk ord nxt u0 u1)(hsaw:Strs w vs [text])
  (LK:∀a n c,vs=.slice (some a) n c->a.block≠b) (hclk:hJ w clk clock) (hf:∃a n c,vf=.slice a n c) (ht:text.size<=1000000) (hu0:0<=u0) (hu1:u0<=4611686018427387904) (yY:11<=b)
  (hw:∀x,x∈clock->(Lit.int .i64 x).wf=true):
  Calls Tryz.prog 52 #[.pointer (some ⟨b,0,none⟩),nY 4 vf tn sorted] w fun e w'=>
   e=.returned (.tuple #[.string (stampB text (clock.getD u0.toNat 0)),.int .i64 0])/\Sbx w' b vs clk ord nxt (u0+1) u1/\bS b w w':=by
 obtain⟨a,n,c,rfl⟩:=hf;have c0:=hs.cell 0;have c1:=hs.cell 1;have uZ:=hs.lt;simp only[List.getElem?_toArray,List.getElem?_cons_zero,List.getElem?_cons_succ] at c0 c1;rcases hsaw.cases with⟨h,-⟩|⟨bl,o,cc,rfl,h0,h1,h2,hb,hc⟩
 ·cases h
 have hblb:bl≠b:=LK ⟨bl,o,none⟩ _ _ rfl;have c2:=(hc 0 text rfl).1;simp only[Nat.add_zero,List.length_cons,List.length_nil,Nat.zero_add] at c2 c0 h1;have ES:Below w.heap.size w (w.alloc (oBx24 4 a n c tn sorted)):=aA _ _;have HS0:=zh (hs.later ES);have HC0:=zh (hclk.later ES);have HG0:=zh (hG.later ES);have HO0:=zh (bS.of_below (b:=b) ES);have d0:=aC ES c0;have d1:=aC ES c1;have d2:=aC ES c2
 have SV:(Lit.int .i64 (clock.getD u0.toNat 0)).wf=true:=by
  rw[List.getD_eq_getElem?_getD]
  cases hh:clock[u0.toNat]? with
  |none=>rfl
  |some y=>exact hw y (List.mem_of_getElem? hh)
 obtain⟨G2,I8⟩:=i64_bounds SV;obtain⟨ak,ck,hvk,-⟩:=id hclk;subst hvk
 have HN:Hid (∀W,Sbx W b (.slice (some ⟨bl,o,none⟩) 1 cc) (.slice ak clock.length ck) ord nxt u0 u1->hJ W (.slice ak clock.length ck) clock->Calls Tryz.prog 83 #[.pointer (some ⟨b,0,none⟩),.slice ak clock.length ck,.int .i64 0] W fun e w'=>e=.returned (.int .i64 (clock.getD u0.toNat 0))/\Sbx w' b (.slice (some ⟨bl,o,none⟩) 1 cc) (.slice ak clock.length ck) ord nxt (u0+1) u1/\bS b W w'):=
  zh fun W h1 h2=>next0_any b _ _ _ _ u0 u1 clock _ W h1 h2 hu0 hu1
 generalize clock.getD u0.toNat 0=X at HN SV G2 I8 ⊢;have UW:(qE X).size<=100:=wireInt_size X G2 I8;have hwz2:(text++qE X).size<=1000100:=by rw[ByteArray.size_append];omega
 have BE:¬9223372036854775807<text.size+(qE X).size:=aAM;have PI:¬9223372036854775807<text.size+(qE X).size+1:=aAM;clear hc hsaw hclk hs hG c0 c1 c2 hw SV hb;go_enter Tryz.func52,Tryz.ntmps52;go_wp2_with fail;generalize hW0:w.alloc (oBx24 4 a n c tn sorted)=W0 at *;clear hW0
 go_region_held3 (fun W=>W.cell? ⟨b,0,none⟩=some (.slice (some ⟨bl,o,none⟩) 1 cc)/\W.cell? ⟨b,1,none⟩=some (.slice ak clock.length ck)/\W.cell? ⟨bl,o,none⟩=some (.string text))
  (first|exact⟨j0,j1,j2⟩|exact⟨k0,k1,k2⟩|exact⟨d0,d1,d2⟩|go_keep)
  (first|(go_at_call 83;refine(HN.out _ (by exact HS0.out) (by exact HC0.out)).mono ?_;rintro e w1 ⟨rfl,QQ,U4⟩;have HSB1:=zh QQ;have HON1:=zh U4;have k0:w1.cell? ⟨b,0,none⟩=some (.slice (some ⟨bl,o,none⟩) 1 cc):=QQ.cell 0;have k1:w1.cell? ⟨b,1,none⟩=some (.slice ak clock.length ck):=QQ.cell 1;have k2:w1.cell? ⟨bl,o,none⟩=some (.string text):=U4.cell hblb (by exact d2);clear QQ U4)|(go_at_call 82;refine(wireInt_any _ _ (by exact(HG0.out.later (Below.refl _ _).drew).only HON1.out yY) G2 I8).mono ?_;rintro e w2 ⟨rfl,sD⟩;have j0:=aC sD k0;have j1:=aC sD k1;have j2:=aC sD k2))
 go_wp2_with fail;go_ret2;exact⟨rfl,HSB1.out.later sD,(HO0.out.drew.trans HON1.out).trans (bS.of_below sD)⟩
theorem aAf{p:Prop}(h:p:=by
 rintro e w' ⟨rfl,hs,ho⟩
 exact⟨_,rfl,hs,⟨⟨none,0,rfl,aAQ,aAQ,fun h=>absurd rfl h⟩,fun a n c e _=>by simp at e⟩,ho⟩):p:=h
theorem aAq{p:Prop}(h:p:=by
 rintro e w' ⟨rfl,hs,ho⟩
 exact⟨vs,rfl,hs,h.hsaw.only ho,ho⟩):p:=h
theorem mN(l:List bA)(B:Nat)(h:∀x,x∈l->x.size<=B):(jM l).length<=l.length*(B+1):=by
 induction l with
 |nil=>simp[jM]
 |cons x l ih=>
  have h1:=ih (fun y hy=>h y (List.mem_cons_of_mem _ hy));have h2:=h x (List.mem_cons_self ..);have e:jM (x::l)=x.data.toList++[10]++jM l:=by simp[jM]
  rw[e];have:x.data.toList.length=x.size:=aAQ;simp only[List.length_append,this,List.length_cons,List.length_nil];rw[Nat.add_mul];omega
theorem join_length(l:List bA)(B:Nat)(h:∀x,x∈l->x.size<=B):(Lib.join (l.map (·.data.toList)) []).length<=l.length*B:=by
 have:Lib.join (l.map (·.data.toList)) []=(l.map (·.data.toList)).flatten:=by
  unfold Lib.join
  induction l.map (·.data.toList) with
  |nil=>rfl
  |cons x r ih=>cases r<;>simp_all [List.intercalate,List.intersperse]
 rw[this];clear this
 induction l with
 |nil=>simp
 |cons x l ih=>
  have h1:=ih (fun y hy=>h y (List.mem_cons_of_mem _ hy));have h2:=h x (List.mem_cons_self ..);have:x.data.toList.length=x.size:=aAQ;simp only[List.map_cons,List.flatten_cons,List.length_append,this,List.length_cons];rw[Nat.add_mul];omega
theorem pE(order:List Int):∀(f u:Nat)(l:List bA),(eT order f u l).length<=f
 |0,_,_=>by simp[eT]
 |f+1,u,l=>by
  rw[eT];split
  ·simp
  have:=pE order f (u+1) (l.eraseIdx (gU (order.getD u 0) l.length));rw[List.length_cons];omega
theorem isName_size{s:bA}(h:eV s=true):s.size<=20:=by
 simp[eV] at h;exact h.2
theorem rB(t:bA)(ht:t.size<=65536):(jM (eF t)).length<=140737488355328:=by
 unfold eF;split
 ·simp[jM]
 have zI:=trim_size t;have hcnt:=Lib.countB_le nl aAO t.size _ zI;have hl:=linesOf_length t
 have h:=mN (fQ (nO t)) 65536 (fun x hx=>by
  have:=splitB_size nl _ _ x (mC hx)
  omega)
 rw[fM] at h;have:(nO t).length*(65536+1)<=65537*65537:=Nat.mul_le_mul aAM aAM;omega
def StrsOff(b:Nat)(w:World)(v:Value)(l:List bA):Prop:=Strs w v l/\∀a n c,v=.slice (some a) n c->l≠[]->b<a.block
theorem StrsOff.only{b:Nat}{w w':World}{v:Value}{l:List bA}(h:StrsOff b w v l)(ho:bS b w w'):StrsOff b w' v l:=by
 refine⟨?_,h.2⟩;obtain⟨a,c,hv,h1,h2,h3⟩:=h.1;refine⟨a,c,hv,h1,h2,fun sC=>?_⟩;obtain⟨b',o',ha,hc⟩:=h3 sC;refine⟨b',o',ha,fun i x' hx=>?_⟩;obtain⟨cs,e,hl,hj⟩:=hc i x' hx;exact⟨cs,e,hl,fun j u hu=>ho.cell (Nat.ne_of_gt (h.2 ⟨b',o',none⟩ l.length c (by rw[hv,ha]) sC)) (hj j u hu)⟩
def IntsOff(b:Nat)(w:World)(v:Value)(l:List Int):Prop:=hJ w v l/\∀a n c,v=.slice (some a) n c->l≠[]->a.block≠b
theorem IntsOff.only{b:Nat}{w w':World}{v:Value}{l:List Int}(h:IntsOff b w v l)(ho:bS b w w'):IntsOff b w' v l:=by
 refine⟨?_,h.2⟩;obtain⟨a,c,hv,h1,h2,h3⟩:=h.1;refine⟨a,c,hv,h1,h2,fun sC=>?_⟩;obtain⟨b',o',ha,hc⟩:=h3 sC;refine⟨b',o',ha,fun i x' hx=>?_⟩;obtain⟨cs,e,hl,hj⟩:=hc i x' hx;exact⟨cs,e,hl,fun j u hu=>ho.cell (h.2 ⟨b',o',none⟩ l.length c (by rw[hv,ha]) sC) (hj j u hu)⟩
theorem dI{s:Stp}(h:aM s=true):(∀x,x∈s.src->eV x=true)/\eV s.out=true/\s.src.length<=60/\
  (s.kind=2\/s.kind=1/\s.sorted=false\/(s.kind=0\/s.kind=3\/s.kind=4\/s.kind=5)/\s.src.length=1/\s.sorted=false):=by
 unfold aM at h;split at h
 ·cases h
 rename_i h0
 have h0':eV s.out=true/\∀x,x∈s.src->eV x=true:=by
  simp at h0;exact⟨h0.1,fun x hx=>by simpa using h0.2 x hx⟩
 refine⟨h0'.2,h0'.1,?_⟩;split at h
 ·rename_i h2;simp at h;exact⟨h,.inl h2⟩
 split at h
 ·rename_i h1;simp at h;exact⟨h.1,.inr (.inl ⟨h1,h.2⟩)⟩
 split at h
 ·rename_i h3;simp at h;exact⟨aAM,.inr (.inr ⟨h3,h.1,h.2⟩)⟩
 cases h
structure WriteIn (s:Stp) (saw:List bA) (clock order:List Int) (b:Nat) (vs clk ord nxt vf:Value) (u0 u1:Int) (w:World):Prop where
 hglob:dL w
 hb:11<=b
 hsbx:Sbx w b vs clk ord nxt u0 u1
 hsaw:StrsOff b w vs saw
 hclk:IntsOff b w clk clock
 hord:IntsOff b w ord order
 hsrc:Strs w vf s.src
 hright:aM s=true
 htexts:∀x,x∈saw->x.size<=65536
 hlen:saw.length=s.src.length
 hu0:0<=u0/\u0<=1152921504606846976
 hu1:0<=u1/\u1<=1152921504606846976
 hcwf:∀x,x∈clock->(Lit.int .i64 x).wf=true
 howf:∀x,x∈order->(Lit.int .i64 x).wf=true
theorem write_any(s:Stp)(saw:List bA)(clock order:List Int)(b:Nat)(vs clk ord nxt vf:Value)(u0 u1:Int)(w:World)(h:WriteIn s saw clock order b vs clk ord nxt vf u0 u1 w)(h5:s.kind≠5):
  Calls Tryz.prog 52 #[.pointer (some ⟨b,0,none⟩),nY s.kind vf s.out s.sorted] w fun e w'=>∃vs',
   e=.returned (.tuple #[.string (bE s saw clock order u0 u1).1,.int .i64 0])/\Sbx w' b vs' clk ord nxt (bE s saw clock order u0 u1).2.2.1 (bE s saw clock order u0 u1).2.2.2/\
   StrsOff b w' vs' (bE s saw clock order u0 u1).2.1/\bS b w w':=by
 obtain⟨hn,hout,hl,hk⟩:=dI h.hright;have hf:∃a n c,vf=.slice a n c:=by obtain⟨a,c,hv,-⟩:=h.hsrc;exact⟨a,_,c,hv⟩
 obtain⟨kind,src,out,sorted⟩:=s;simp only at hn hout hl hk h5 hf ⊢;by_cases k01:kind=0\/kind=1
 ·have e:bE ⟨kind,src,out,sorted⟩ saw clock order u0 u1=(joinB saw,saw,u0,u1):=by simp[bE,k01]
  rw[e];have hj:=join_length saw 65536 h.htexts;have hlen:saw.length<=60:=by have:=h.hlen;simp only at this;omega
  refine(write_join b saw vs clk ord nxt u0 u1 kind vf out sorted w h.hsbx h.hsaw.1 k01 hf (Nat.le_trans hj aAM) aAM).mono ?_;exact aAq
 by_cases k3:kind=3
 ·subst k3;have e:bE ⟨3,src,out,sorted⟩ saw clock order u0 u1=(rE (eF (saw.headD ByteArray.empty)),saw,u0,u1):=by simp[bE]
  rw[e]
  obtain⟨t,rfl⟩:∃t,saw=[t]:=by
   have:=h.hlen;simp only at this;have h1:saw.length=1:=aAM;exact List.length_eq_one_iff.1 h1
  have ht:=h.htexts t aAQ;refine(write_sort b t vs clk ord nxt u0 u1 vf out sorted w h.hglob h.hsbx h.hsaw.1 hf aAM (rB t ht)).mono ?_;exact aAq
 by_cases k4:kind=4
 ·subst k4;have e:bE ⟨4,src,out,sorted⟩ saw clock order u0 u1=(stampB (saw.headD ByteArray.empty) (clock.getD u0.toNat 0),saw,u0+1,u1):=by simp[bE]
  rw[e]
  obtain⟨t,rfl⟩:∃t,saw=[t]:=by
   have:=h.hlen;simp only at this;have h1:saw.length=1:=aAM;exact List.length_eq_one_iff.1 h1
  have ht:=h.htexts t aAQ;refine(write_stamp b t clock vs clk ord nxt u0 u1 vf out sorted w h.hglob h.hsbx h.hsaw.1 (fun a n c e=>Nat.ne_of_gt (h.hsaw.2 a n c e aAQ)) h.hclk.1 hf aAM h.hu0.1 (by have:=h.hu0.2;omega) h.hb h.hcwf).mono ?_;exact aAq
 have k2:kind=2:=aAM;subst k2;have tI:∀x,x∈src->x.size<=20:=fun x hx=>isName_size (hn x hx);have hsrc:Strs w vf src:=h.hsrc
 cases sorted with
 |true=>
  have e:bE ⟨2,src,out,true⟩ saw clock order u0 u1=(rE (fQ src),[],u0,u1):=by simp[bE]
  rw[e];have hr:=mN (fQ src) 20 (fun x hx=>tI x (mC hx));rw[fM] at hr;refine(write_list b (fQ src) vs clk ord nxt u0 u1 u1 vf out true w h.hsbx hf (fun W hb=>?_) aAM).mono ?_
  ·refine(list_sorted b src vf W (hsrc.later hb) aAM).mono ?_;rintro e w' ⟨v,rfl,h1,h2,h3⟩;exact⟨v,rfl,h1,h2,(h.hsbx.later hb).later h3,bS.of_below h3⟩
  exact aAf
 |false=>
  have e:bE ⟨2,src,out,false⟩ saw clock order u0 u1=(rE (eT order src.length u1.toNat (fQ src)),[],u0,u1+src.length):=by simp[bE]
  rw[e];have hr:=mN (eT order src.length u1.toNat (fQ src)) 20 (fun x hx=>tI x (mC (qL hx)));have hpl:=pE order src.length u1.toNat (fQ src);have QY:(eT order src.length u1.toNat (fQ src)).length*(20+1)<=60*21:=Nat.mul_le_mul aAM aAM;have hu:=h.hu1;refine(write_list b (eT order src.length u1.toNat (fQ src)) vs clk ord nxt u0 u1 (u1+src.length) vf out false w h.hsbx hf (fun W hb=>?_) aAM).mono ?_
  ·have LK:Sbx W b vs clk ord nxt u0 ((u1.toNat:Nat):Int):=(h.hsbx.later hb).cast aAM;refine(list_picks b vs clk nxt ord u0 u1.toNat order src vf W LK (fun W' ho=>(h.hord.only ((bS.of_below hb).trans ho)).1) (hsrc.later hb) aAM aAM h.howf).mono ?_;rintro e w' ⟨v,rfl,h1,h2,h3,h4⟩;exact⟨v,rfl,h1,h2,h3.cast aAM,h4⟩
  exact aAf
theorem X4{p:Prop}(h:p:=by
 obtain⟨⟨a1,c1,e1⟩,⟨a2,c2,e2⟩,⟨a3,n3,c3,e3⟩,⟨a4,n4,c4,e4⟩,⟨a5,n5,c5,e5⟩⟩:=oD h
 have HR:Hid (∀W,Below w.heap.size w W->Calls Tryz.prog 24 #[nY s.kind vf s.out s.sorted] W fun e w'=>e=.returned (.bool true)/\Below W.heap.size W w'):=
  zh fun W hb=>yC▸jT s vf W (h.hsrc.later hb) h.hout
 have HF:Hid (∀W,Below w.heap.size w W->Calls Tryz.prog 51 #[vl] W fun e w'=>e=.returned (.bool true)/\Below W.heap.size W w'):=
  zh fun W hb=>yB▸iT files vl W (h.hfil.later hb)
 have OV:Hid (∀W x,Below w.heap.size w W->Calls Tryz.prog 21 #[vl,.string x] W fun e w'=>e=.returned (lI files x)/\Below W.heap.size W w'):=
  zh fun W x hb=>find_any files vl x W (h.hfil.later hb)
 have BJ:=zh h;obtain⟨kind,src,out,sorted⟩:=s;have hu0:=h.hu0;have hu1:=h.hu1;clear h;simp only at e1;subst e1 e2 e3 e4 e5;unfold pR;simp only at HR HF ⊢;have tJ:=iI.made w kind (.slice a1 src.length c1) out sorted (.slice a3 n3 c3) (.slice a4 n4 c4) (.slice a5 n5 c5) u0 u1;have sH:=zh tJ;clear tJ yC yB;simp only at HT;go_enter Tryz.func17,Tryz.ntmps17;go_wp2_with fail;refine(HR.out _ sH.out.below).mono ?_;rintro e w1 ⟨rfl,sF⟩;have sV:=zh (sH.out.later sF);clear sH sF;go_wp2_with fail;refine(HF.out _ sV.out.below).mono ?_;rintro e w2 ⟨rfl,sD⟩;have sW:=zh (sV.out.later sD);clear sV sD;obtain⟨s0,s1,s2,s3,y0,y1,y2,x0,x1,r0,r1,f0,f1⟩:=sW.out.cells;go_wp2_with fail;refine(OV.out _ _ sW.out.below).mono ?_;rw[HT.out];rintro e w3 ⟨rfl,uA⟩;have wL:=zh (sW.out.later uA);clear sW uA s0 s1 s2 s3 y0 y1 y2 x0 x1 r0 r1 f0 f1;obtain⟨s0,s1,s2,s3,y0,y1,y2,x0,x1,r0,r1,f0,f1⟩:=wL.out.cells;go_wp2_with fail;go_region
 go_wp2_with fail
 exact wL.out.err rfl rfl rfl rfl rfl fun W' hW=>⟨rfl,hW⟩):p:=h
theorem Y0{p:Prop}(h:p:=by
 clear tL;go_enter Tryz.func17,Tryz.ntmps17;go_wp2_with fail;refine(HR.out _ sH.out.below).mono ?_;rintro e w1 ⟨rfl,sF⟩;have sV:=zh (sH.out.later sF);clear sH sF;go_wp2_with fail;refine(HF.out _ sV.out.below).mono ?_;rintro e w2 ⟨rfl,sD⟩;have sW:=zh (sV.out.later sD);clear sV sD;obtain⟨-,-,-,-,-,-,-,x0,x1,r0,r1,f0,f1⟩:=sW.out.cells;go_wp2_with fail;go_region
 go_wp2_with fail
 exact sW.out.err rfl rfl rfl rfl rfl fun W' hW=>⟨rfl,hW⟩):p:=h
theorem res_cells{w:World}{b:Nat}{u v x y:Value}(h0:w.cell? ⟨b,0,none⟩=some x)(h1:w.cell? ⟨b,1,none⟩=some y):
  ((w.setCell ⟨b,0,none⟩ u).setCell ⟨b,1,none⟩ v).drew.cell? ⟨b,0,none⟩=some u/\((w.setCell ⟨b,0,none⟩ u).setCell ⟨b,1,none⟩ v).drew.cell? ⟨b,1,none⟩=some v:=by
 obtain⟨c,e,fr,hb,hc0⟩:=Sort.cells_of_cell? h0;obtain⟨c',e',fr',tO,NM⟩:=Sort.cells_of_cell? h1;rw[hb] at tO;cases tO;have i0:0<c.size:=by rcases Nat.lt_or_ge 0 c.size with h|h;exact h;rw[Array.getElem?_eq_none h] at hc0;cases hc0
 have i1:1<c.size:=by rcases Nat.lt_or_ge 1 c.size with h|h;exact h;rw[Array.getElem?_eq_none h] at NM;cases NM
 have hH:((w.setCell ⟨b,0,none⟩ u).setCell ⟨b,1,none⟩ v).drew.heap[b]? =some (.cells ((c.setIfInBounds 0 u).setIfInBounds 1 v) e fr):=by
  show((w.setCell ⟨b,0,none⟩ u).setCell ⟨b,1,none⟩ v).heap[b]? =_;simp[World.setCell,Array.getElem?_modify,hb]
 constructor
 ·simp only[World.cell?,hH];simp[i0]
 simp only[World.cell?,hH];simp[i1]
structure DoIn (s:Stp) (files:List Fil) (clock order:List Int) (vf vl vc vo vn:Value) (u0 u1:Int) (w:World):Prop where
 hglob:dL w
 hsrc:Strs w vf s.src
 hout:s.out.size<=140737488355328
 hfil:jZ w vl files
 hclk:hJ w vc clock
 hord:hJ w vo order
 hnxt:∃a n c,vn=.slice a n c
 hu0: -9223372036854775808<=u0/\u0<=1152921504606846976
 hu1: -9223372036854775808<=u1/\u1<=1152921504606846976
 hcwf:∀x,x∈clock->(Lit.int .i64 x).wf=true
 howf:∀x,x∈order->(Lit.int .i64 x).wf=true
abbrev pR(s:Stp)(vf vl vc vo vn:Value)(u0 u1:Int):Array Value:=
 #[nY s.kind vf s.out s.sorted,vl,.agg #[vc,vo,vn],.agg #[.int .i64 u0,.int .i64 u1]]
abbrev doErr(u0 u1 e:Int):Value:=.tuple #[.slice none 0 0,.slice none 0 0,.agg #[.int .i64 u0,.int .i64 u1],.int .i64 e]
theorem oD{s:Stp}{files:List Fil}{clock order:List Int}{vf vl vc vo vn:Value}{u0 u1:Int}{w:World}(h:DoIn s files clock order vf vl vc vo vn u0 u1 w):
  (∃a c,vf=.slice a s.src.length c)/\(∃a c,vl=.slice a files.length c)/\(∃a n c,vc=.slice a n c)/\(∃a n c,vo=.slice a n c)/\(∃a n c,vn=.slice a n c):=by
 obtain⟨a1,c1,h1,-⟩:=h.hsrc;obtain⟨a2,c2,h2,-⟩:=h.hfil;obtain⟨a3,c3,h3,-⟩:=h.hclk;obtain⟨a4,c4,h4,-⟩:=h.hord;exact⟨⟨a1,c1,h1⟩,⟨a2,c2,h2⟩,⟨a3,_,c3,h3⟩,⟨a4,_,c4,h4⟩,h.hnxt⟩
structure iI (w W:World) (kind:Int) (vf:Value) (out:bA) (sorted:Bool) (vc vo vn:Value) (u0 u1:Int):Prop where
 bs:W.heap[w.heap.size]? =some (.cells #[.int .i64 kind,vf,.string out,.bool sorted] 24 (0,0))
 bw:W.heap[w.heap.size+1]? =some (.cells #[vc,vo,vn] 28 (0,0))
 bu:W.heap[w.heap.size+1+1]? =some (.cells #[.int .i64 u0,.int .i64 u1] 31 (0,0))
 br:W.heap[w.heap.size+1+1+1]? =some (.cells #[.int .i64 0,.int .i64 0] 31 (0,0))
 below:Below w.heap.size w W
theorem iR{W:World}{k:Nat}{o:Obj}(h:W.heap[k]? =some o):k<W.heap.size:=(Array.getElem?_eq_some_iff.1 h).1
theorem iI.made(w:World)(kind:Int)(vf:Value)(out:bA)(sorted:Bool)(vc vo vn:Value)(u0 u1:Int):
  iI w ((((w.alloc (oBx26 kind vf out sorted)).alloc (.cells #[vc,vo,vn] 28)).alloc (oBx22 u0 u1)).alloc (oBx22 0 0)) kind vf out sorted vc vo vn u0 u1:=by
 refine⟨?_,?_,?_,?_,((((Below.refl _ w).alloc (Nat.le_refl _) _).alloc aAQ _).alloc aA0 _).alloc aA0 _⟩
 ·rw[Below.heap_alloc _ _ _ aA0,Below.heap_alloc _ _ _ aA0,Below.heap_alloc _ _ _ aAQ,aH]
 ·rw[Below.heap_alloc _ _ _ aAQ,Below.heap_alloc _ _ _ aAQ];have h:=aH (w.alloc (oBx26 kind vf out sorted)) (.cells #[vc,vo,vn] 28);simpa only[World.size_alloc] using h
 ·rw[Below.heap_alloc _ _ _ aAQ];have h:=aH ((w.alloc (oBx26 kind vf out sorted)).alloc (.cells #[vc,vo,vn] 28)) (oBx22 u0 u1);simpa only[World.size_alloc] using h
 have h:=aH (((w.alloc (oBx26 kind vf out sorted)).alloc (.cells #[vc,vo,vn] 28)).alloc (oBx22 u0 u1)) (oBx22 0 0);simpa only[World.size_alloc] using h
section
variable {w W W':World} {kind:Int} {vf:Value} {out:bA} {sorted:Bool} {vc vo vn:Value} {u0 u1:Int}
theorem iI.later(h:iI w W kind vf out sorted vc vo vn u0 u1)(hb:Below W.heap.size W W'):iI w W' kind vf out sorted vc vo vn u0 u1:=
 ⟨(hb.block _ (iR h.bs)).trans h.bs,(hb.block _ (iR h.bw)).trans h.bw,(hb.block _ (iR h.bu)).trans h.bu,(hb.block _ (iR h.br)).trans h.br,aB h.below hb⟩
theorem iI.only{b:Nat}(h:iI w W kind vf out sorted vc vo vn u0 u1)(hb:bS b W W')(wR:w.heap.size+1+1+1<b):iI w W' kind vf out sorted vc vo vn u0 u1:=
 ⟨(hb.block _ (iR h.bs) aAM).trans h.bs,(hb.block _ (iR h.bw) aAM).trans h.bw,(hb.block _ (iR h.bu) aAM).trans h.bu,(hb.block _ (iR h.br) aAM).trans h.br,hb.below h.below aAM (by have:=iR h.bs;omega)⟩
theorem iI.cells(h:iI w W kind vf out sorted vc vo vn u0 u1):
  W.cell? ⟨w.heap.size,0,none⟩=some (.int .i64 kind)/\W.cell? ⟨w.heap.size,1,none⟩=some vf/\W.cell? ⟨w.heap.size,2,none⟩=some (.string out)/\W.cell? ⟨w.heap.size,3,none⟩=some (.bool sorted)/\
  W.cell? ⟨w.heap.size+1,0,none⟩=some vc/\W.cell? ⟨w.heap.size+1,1,none⟩=some vo/\W.cell? ⟨w.heap.size+1,2,none⟩=some vn/\
  W.cell? ⟨w.heap.size+1+1,0,none⟩=some (.int .i64 u0)/\W.cell? ⟨w.heap.size+1+1,1,none⟩=some (.int .i64 u1)/\
  W.cell? ⟨w.heap.size+1+1+1,0,none⟩=some (.int .i64 0)/\W.cell? ⟨w.heap.size+1+1+1,1,none⟩=some (.int .i64 0)/\
  W.frozen? ⟨w.heap.size+1+1+1,0,none⟩=false/\W.frozen? ⟨w.heap.size+1+1+1,1,none⟩=false:=by
 obtain⟨h1,h2,h3,h4,-⟩:=h;refine⟨?_,?_,?_,?_,?_,?_,?_,?_,?_,?_,?_,?_,?_⟩<;>simp[World.cell?,World.frozen?,h1,h2,h3,h4]
theorem iI.err{e:Int}{a:Act}(h:iI w W kind vf out sorted vc vo vn u0 u1)(h8:a.tmps[8]?.getD undef=.slice none 0 0)(h9:a.tmps[9]?.getD undef=.slice none 0 0)(FU:a.tmps[10]?.getD undef=.pointer (some ⟨w.heap.size+1+1+1,0,none⟩))(h11:a.tmps[11]?.getD undef=.int .i64 e)(hd:a.defers=[]){R:Ending->World->Prop}
  (hR:∀W',Below w.heap.size w W'->R (.returned (doErr u0 u1 e)) W'):
  bodyPost Tryz.prog Tryz.f17 R .ret a ((W.setCell ⟨w.heap.size+1+1+1,0,none⟩ (.int .i64 u0)).setCell ⟨w.heap.size+1+1+1,1,none⟩ (.int .i64 u1)).drew:=by
 obtain⟨-,-,-,-,-,-,-,-,-,r0,r1,-,-⟩:=h.cells;have hr:=res_cells (w:=W) (b:=w.heap.size+1+1+1) (u:=.int .i64 u0) (v:=.int .i64 u1) r0 r1;refine bodyPost_ret (v:=doErr u0 u1 e) (by simp[results,Tryz.results17,go_sem,hr.1,hr.2,h8,h9,FU,h11]) hd (hR _ ?_);exact((h.below.setCell aA0 _).setCell aA0 _).drew
end
theorem do_arg(s:Stp)(files:List Fil)(clock order:List Int)(vf vl vc vo vn:Value)(u0 u1:Int)(w:World)(h:DoIn s files clock order vf vl vc vo vn u0 u1 w)
  (tL:aM s=false\/aT files=false\/min u0 u1<0):
  Calls Tryz.prog 17 (pR s vf vl vc vo vn u0 u1) w fun e w'=>e=.returned (doErr u0 u1 1)/\Below w.heap.size w w':=by
 obtain⟨⟨a1,c1,e1⟩,⟨a2,c2,e2⟩,⟨a3,n3,c3,e3⟩,⟨a4,n4,c4,e4⟩,⟨a5,n5,c5,e5⟩⟩:=oD h
 have HR:Hid (∀W,Below w.heap.size w W->Calls Tryz.prog 24 #[nY s.kind vf s.out s.sorted] W fun e w'=>e=.returned (.bool (aM s))/\Below W.heap.size W w'):=
  zh fun W hb=>jT s vf W (h.hsrc.later hb) h.hout
 have HF:Hid (∀W,Below w.heap.size w W->Calls Tryz.prog 51 #[vl] W fun e w'=>e=.returned (.bool (aT files))/\Below W.heap.size W w'):=
  zh fun W hb=>iT files vl W (h.hfil.later hb)
 obtain⟨kind,src,out,sorted⟩:=s;have hu0:=h.hu0;have hu1:=h.hu1;clear h;simp only at e1;subst e1 e2 e3 e4 e5;unfold pR;simp only at HR HF ⊢;generalize aM ⟨kind,src,out,sorted⟩=r1 at HR tL;generalize aT files=r2 at HF tL;have tJ:=iI.made w kind (.slice a1 src.length c1) out sorted (.slice a3 n3 c3) (.slice a4 n4 c4) (.slice a5 n5 c5) u0 u1;have sH:=zh tJ;clear tJ
 cases r1 with
 |false=>
  clear tL HF;go_enter Tryz.func17,Tryz.ntmps17;go_wp2_with fail;refine(HR.out _ sH.out.below).mono ?_;rintro e w1 ⟨rfl,sF⟩;have sV:=zh (sH.out.later sF);clear sH sF;obtain⟨-,-,-,-,-,-,-,x0,x1,r0,r1,f0,f1⟩:=sV.out.cells;go_wp2_with fail;go_region
  go_wp2_with fail;exact sV.out.err rfl rfl rfl rfl rfl fun W' hW=>⟨rfl,hW⟩
 |true=>
  cases r2 with
  |false=>
   exact Y0
  |true=>
   (have zP:min u0 u1<0:=by simpa using tL);exact Y0
theorem do_twice(s:Stp)(files:List Fil)(clock order:List Int)(vf vl vc vo vn:Value)(u0 u1:Int)(w:World)(h:DoIn s files clock order vf vl vc vo vn u0 u1 w)
  (yC:aM s=true) (yB:aT files=true) (zP:¬min u0 u1<0) (t:bA) (ht:aI files s.out=some t):
  Calls Tryz.prog 17 (pR s vf vl vc vo vn u0 u1) w fun e w'=>e=.returned (doErr u0 u1 5)/\Below w.heap.size w w':=by
 have HT:=zh (show lI files s.out=.tuple #[.string t,.bool true] by unfold lI;rw[ht]);clear ht;exact X4
theorem do_full(s:Stp)(files:List Fil)(clock order:List Int)(vf vl vc vo vn:Value)(u0 u1:Int)(w:World)(h:DoIn s files clock order vf vl vc vo vn u0 u1 w)
  (yC:aM s=true) (yB:aT files=true) (zP:¬min u0 u1<0) (ht:aI files s.out=none) (yD:60<=files.length):
  Calls Tryz.prog 17 (pR s vf vl vc vo vn u0 u1) w fun e w'=>e=.returned (doErr u0 u1 6)/\Below w.heap.size w w':=by
 have HT:=zh (show lI files s.out=.tuple #[.string ByteArray.empty,.bool false] by unfold lI;rw[ht]);clear ht;exact X4
end Go.Proofs.YtacgopankhpnbaaGreatDoor
