/- Texts of this seat, joined. -/
import Derived.Test.YtiionicikdnnpaaGreatDoorStepH
import Derived.Deep.RegionHeld3
set_option maxHeartbeats 2000000
set_option maxRecDepth 100000
set_option linter.unusedVariables false
set_option linter.unusedSimpArgs false
namespace Go.Proofs.YtiionicikdnnpaaGreatDoor
open Go.RowKit
theorem join_any(l:List bA)(v:Value)(w:World)(hv:Strs w v l)(hlen:(Lib.join (l.map (·.data.toList)) []).length<=140737488355328)(hl:l.length<=140737488355328):
  Calls Tryz.prog 101 #[v,.string ⟨#[]⟩] w fun e w'=>e=.returned (.string (joinB l))/\Below w.heap.size w w':=by
 rcases hv.cases with⟨rfl,a,c,rfl⟩|⟨b,o,c,rfl,h0,h1,h2,hb,hc⟩
 ·refine(Tryz.strings_Join_none a c ⟨#[]⟩ w).mono ?_;rintro e w' ⟨rfl,rfl⟩;exact⟨rfl,Below.refl _ _⟩
 exact Tryz.strings_Join b o c l ⟨#[]⟩ w (fun j x hx=>(hc j x hx).1) hb hl h1 hlen
theorem write_join(b:Nat)(saw:List bA)(vs clk ord nxt:Value)(u0 u1 kind:Int)(vf:Value)(tn:bA)(sorted:Bool)(w:World)(hs:Sbx w b vs clk ord nxt u0 u1)(hsaw:Strs w vs saw)
  (hk:kind=0\/kind=1) (hf:∃a n c,vf=.slice a n c) (hlen:(Lib.join (saw.map (·.data.toList)) []).length<=140737488355328) (hl:saw.length<=140737488355328):
  Calls Tryz.prog 107 #[.pointer (some ⟨b,0,none⟩),pA kind vf tn sorted] w fun e w'=>
   e=.returned (.tuple #[.string (joinB saw),.int .i64 0])/\Sbx w' b vs clk ord nxt u0 u1/\dU b w w':=by
 obtain⟨a,n,c,rfl⟩:=hf;have c0:=hs.cell 0;have vK:=hs.lt;simp only[List.getElem?_toArray,List.getElem?_cons_zero] at c0;have HS:=zh hs;clear hs;have HJ:Hid (∀W,Below w.heap.size w W->Calls Tryz.prog 101 #[vs,.string ⟨#[]⟩] W fun e w'=>e=.returned (.string (joinB saw))/\Below W.heap.size W w'):=zh fun W hb=>join_any saw vs W (hsaw.later hb) hlen hl;obtain⟨a1,c1,wP,-⟩:=id hsaw;clear hsaw hlen hl;subst wP;rcases hk with rfl|rfl
 all_goals
  go_enter Tryz.func107,Tryz.ntmps107;go_wp2_with fail;refine(HJ.out _ (aA _ _)).mono ?_;rintro e w' ⟨rfl,hb⟩;have rQ:=aC (aA _ _) hb;go_wp2_with fail;go_ret2;exact⟨rfl,HS.out.later rQ,dU.of_below rQ⟩
theorem write_sort(b:Nat)(text:bA)(vs clk ord nxt:Value)(u0 u1:Int)(vf:Value)(tn:bA)(sorted:Bool)(w:World)(hG:eJ w)(hs:Sbx w b vs clk ord nxt u0 u1)(hsaw:Strs w vs [text])
  (hf:∃a n c,vf=.slice a n c) (ht:text.size<=1000000) (hlen:(jP (cY text)).length<=140737488355328):
  Calls Tryz.prog 107 #[.pointer (some ⟨b,0,none⟩),pA 3 vf tn sorted] w fun e w'=>
   e=.returned (.tuple #[.string (rowsB (cY text)),.int .i64 0])/\Sbx w' b vs clk ord nxt u0 u1/\dU b w w':=by
 obtain⟨a,n,c,rfl⟩:=hf;have c0:=hs.cell 0;have vK:=hs.lt;simp only[List.getElem?_toArray,List.getElem?_cons_zero] at c0;have HS:=zh hs;clear hs;rcases hsaw.cases with⟨h,-⟩|⟨bl,o,c1,rfl,h0,h1,h2,hb,hc⟩
 ·cases h
 have c2:=(hc 0 text rfl).1;simp only[Nat.add_zero,List.length_cons,List.length_nil,Nat.zero_add] at c2 c0 h1 ⊢;have rQ:bl<w.heap.size:=hb;have HSo:Hid (∀W,Below w.heap.size w W->Calls Tryz.prog 176 #[.string text] W fun e w'=>∃v,e=.returned v/\Strs w' v (cY text)/\Below W.heap.size W w'):=zh fun W hb=>sorted_any text W (hG.later hb) ht;have HR:Hid (∀W v,Strs W v (cY text)->Calls Tryz.prog 175 #[v] W fun e w'=>e=.returned (.string (rowsB (cY text)))/\Below W.heap.size W w'):=zh fun W v h=>rows_any _ v W h hlen;clear hsaw hc hG hb hlen;go_enter Tryz.func107,Tryz.ntmps107;go_wp2_with fail;refine(HSo.out _ (aA _ _)).mono ?_;rintro e w1 ⟨v,rfl,hv,rR⟩;have HV:=zh hv;obtain⟨a3,c3,SL,-⟩:=hv;subst SL;go_wp2_with fail;refine(HR.out _ _ HV.out).mono ?_;rintro e w2 ⟨rfl,rQ⟩;have AE:=aC (aC (aA _ _) rR) rQ;go_wp2_with fail;go_ret2;exact⟨rfl,HS.out.later AE,dU.of_below AE⟩
theorem Sbx.saw0{w:World}{b:Nat}{saw clk ord nxt:Value}{u0 u1:Int}(h:Sbx w b saw clk ord nxt u0 u1)(x:Value):Sbx (w.setCell ⟨b,0,none⟩ x) b x clk ord nxt u0 u1:=by
 unfold Sbx at h ⊢;exact YA
theorem strs_setCell{w:World}{b o:Nat}{x v:Value}{l:List bA}(h:Strs w v l)(hb:∀a n c,v=.slice (some a) n c->a.block≠b):Strs (w.setCell ⟨b,o,none⟩ x) v l:=by
 obtain⟨a,c,hv,h1,h2,h3⟩:=h;refine⟨a,c,hv,h1,h2,fun rO=>?_⟩;obtain⟨b',o',ha,hc⟩:=h3 rO;refine⟨b',o',ha,fun i x' hx=>?_⟩;obtain⟨cs,e,hl,hj⟩:=hc i x' hx;have AE:=hb ⟨b',o',none⟩ l.length c (by rw[hv,ha]);exact⟨cs,e,hl,fun j u hu=>(World.cell?_of_block (w:=w) (Below.heap_setCell _ _ _ _ AE)).trans (hj j u hu)⟩
theorem write_list(b:Nat)(out:List bA)(vs clk ord nxt:Value)(u0 u u':Int)(vf:Value)(tn:bA)(sorted:Bool)(w:World)(hs:Sbx w b vs clk ord nxt u0 u)
  (hf:∃a n c,vf=.slice a n c)
  (Q4:∀W,Below w.heap.size w W->Calls Tryz.prog 181 #[.pointer (some ⟨b,0,none⟩),vf,.bool sorted] W fun e w'=>∃v,e=.returned v/\Strs w' v out/\(∀a n c,v=.slice (some a) n c->W.heap.size<=a.block)/\Sbx w' b vs clk ord nxt u0 u'/\dU b W w')
  (hlen:(jP out).length<=140737488355328):
  Calls Tryz.prog 107 #[.pointer (some ⟨b,0,none⟩),pA 2 vf tn sorted] w fun e w'=>
   e=.returned (.tuple #[.string (rowsB out),.int .i64 0])/\Sbx w' b (.slice none 0 0) clk ord nxt u0 u'/\dU b w w':=by
 obtain⟨a,n,c,rfl⟩:=hf;have vK:=hs.lt;have HL:=zh Q4;have HR:Hid (∀W v,Strs W v out->Calls Tryz.prog 175 #[v] W fun e w'=>e=.returned (.string (rowsB out))/\Below W.heap.size W w'):=zh fun W v h=>rows_any _ v W h hlen;clear Q4 hs hlen;go_enter Tryz.func107,Tryz.ntmps107;go_wp2_with fail;refine(HL.out _ (aA _ _)).mono ?_;rintro e w1 ⟨v,rfl,hv,hvb,JZ,hon⟩;have HV:=zh hv;have HSB:=zh JZ;have HVB:=zh hvb;have c0:=JZ.cell 0;have f0:=JZ.frozen 0;simp only[List.getElem?_toArray,List.getElem?_cons_zero] at c0;obtain⟨a3,c3,SL,-⟩:=id hv;subst SL;clear hv JZ hvb;go_wp2_with fail;refine(HR.out _ _ (strs_setCell HV.out (fun a n c e=>by have:=HVB.out a n c e;simp at this;omega))).mono ?_;rintro e w2 ⟨rfl,rQ⟩;go_wp2_with fail;go_ret2;refine⟨rfl,(HSB.out.saw0 _).later rQ,?_⟩;exact((dU.of_below (aA _ _)).trans hon).trans ((dU.setCell w1).trans (dU.of_below rQ))
theorem wireInt_size(n:Int)(h0: -9223372036854775808<=n)(h1:n<=9223372036854775807):(pN n).size<=100:=by
 have:=Lib.itoa_length_le n h0 h1;show(Lib.itoa n++[59]).toArray.size<=100;simp;omega
theorem write_stamp(b:Nat)(text:bA)(clock:List Int)(vs clk ord nxt:Value)(u0 u1:Int)(vf:Value)(tn:bA)(sorted:Bool)(w:World)(hG:eJ w)(hs:Sbx w b vs clk ord nxt u0 u1)(hsaw:Strs w vs [text])
  (JZ:∀a n c,vs=.slice (some a) n c->a.block≠b) (hclk:nA w clk clock) (hf:∃a n c,vf=.slice a n c) (ht:text.size<=1000000) (hu0:0<=u0) (hu1:u0<=4611686018427387904) (FE:11<=b)
  (hw:∀x,x∈clock->(Lit.int .i64 x).wf=true):
  Calls Tryz.prog 107 #[.pointer (some ⟨b,0,none⟩),pA 4 vf tn sorted] w fun e w'=>
   e=.returned (.tuple #[.string (stampB text (clock.getD u0.toNat 0)),.int .i64 0])/\Sbx w' b vs clk ord nxt (u0+1) u1/\dU b w w':=by
 obtain⟨a,n,c,rfl⟩:=hf;have c0:=hs.cell 0;have c1:=hs.cell 1;have vK:=hs.lt;simp only[List.getElem?_toArray,List.getElem?_cons_zero,List.getElem?_cons_succ] at c0 c1;rcases hsaw.cases with⟨h,-⟩|⟨bl,o,cc,rfl,h0,h1,h2,hb,hc⟩
 ·cases h
 have hblb:bl≠b:=JZ ⟨bl,o,none⟩ _ _ rfl;have c2:=(hc 0 text rfl).1;simp only[Nat.add_zero,List.length_cons,List.length_nil,Nat.zero_add] at c2 c0 h1;have NN:Below w.heap.size w (w.alloc (.cells #[.int .i64 4,.slice a n c,.string tn,.bool sorted] 63)):=aA _ _;have HS0:=zh (hs.later NN);have VE:=zh (hclk.later NN);have HG0:=zh (hG.later NN);have BM:=zh (dU.of_below (b:=b) NN);have d0:=aD NN c0;have d1:=aD NN c1;have d2:=aD NN c2
 have QR:(Lit.int .i64 (clock.getD u0.toNat 0)).wf=true:=by
  rw[List.getD_eq_getElem?_getD]
  cases hh:clock[u0.toNat]? with
  |none=>rfl
  |some y=>exact hw y (List.mem_of_getElem? hh)
 obtain⟨H6,xF⟩:=i64_bounds QR;obtain⟨ak,ck,hvk,-⟩:=id hclk;subst hvk
 have HN:Hid (∀W,Sbx W b (.slice (some ⟨bl,o,none⟩) 1 cc) (.slice ak clock.length ck) ord nxt u0 u1->nA W (.slice ak clock.length ck) clock->Calls Tryz.prog 178 #[.pointer (some ⟨b,0,none⟩),.slice ak clock.length ck,.int .i64 0] W fun e w'=>e=.returned (.int .i64 (clock.getD u0.toNat 0))/\Sbx w' b (.slice (some ⟨bl,o,none⟩) 1 cc) (.slice ak clock.length ck) ord nxt (u0+1) u1/\dU b W w'):=
  zh fun W h1 h2=>next0_any b _ _ _ _ u0 u1 clock _ W h1 h2 hu0 hu1
 generalize clock.getD u0.toNat 0=X at HN QR H6 xF ⊢;have SJ:(pN X).size<=100:=wireInt_size X H6 xF;have hwz2:(text++pN X).size<=1000100:=by rw[ByteArray.size_append];omega
 have DM:¬9223372036854775807<text.size+(pN X).size:=YM;have OO:¬9223372036854775807<text.size+(pN X).size+1:=YM;clear hc hsaw hclk hs hG c0 c1 c2 hw QR hb;go_enter Tryz.func107,Tryz.ntmps107;go_wp2_with fail;generalize hW0:w.alloc (.cells #[.int .i64 4,.slice a n c,.string tn,.bool sorted] 63)=W0 at *;clear hW0
 go_region_held3 (fun W=>W.cell? ⟨b,0,none⟩=some (.slice (some ⟨bl,o,none⟩) 1 cc)/\W.cell? ⟨b,1,none⟩=some (.slice ak clock.length ck)/\W.cell? ⟨bl,o,none⟩=some (.string text))
  (first|exact⟨j0,j1,j2⟩|exact⟨k0,k1,k2⟩|exact⟨d0,d1,d2⟩|go_keep)
  (first|(go_at_call 178;refine(HN.out _ (by exact HS0.out) (by exact VE.out)).mono ?_;rintro e w1 ⟨rfl,OG,SQ⟩;have HSB1:=zh OG;have HON1:=zh SQ;have k0:w1.cell? ⟨b,0,none⟩=some (.slice (some ⟨bl,o,none⟩) 1 cc):=OG.cell 0;have k1:w1.cell? ⟨b,1,none⟩=some (.slice ak clock.length ck):=OG.cell 1;have k2:w1.cell? ⟨bl,o,none⟩=some (.string text):=SQ.cell hblb (by exact d2);clear OG SQ)|(go_at_call 177;refine(wireInt_any _ _ (by exact(HG0.out.later (Below.refl _ _).drew).only HON1.out FE) H6 xF).mono ?_;rintro e w2 ⟨rfl,rQ⟩;have j0:=aD rQ k0;have j1:=aD rQ k1;have j2:=aD rQ k2))
 go_wp2_with fail;go_ret2;exact⟨rfl,HSB1.out.later rQ,(BM.out.drew.trans HON1.out).trans (dU.of_below rQ)⟩
theorem XQ{p:Prop}(h:p:=by
 rintro e w' ⟨rfl,hs,ho⟩
 exact⟨_,rfl,hs,⟨⟨none,0,rfl,YR,YR,fun h=>absurd rfl h⟩,fun a n c e _=>by simp at e⟩,ho⟩):p:=h
theorem X0{p:Prop}(h:p:=by
 rintro e w' ⟨rfl,hs,ho⟩
 exact⟨vs,rfl,hs,h.hsaw.only ho,ho⟩):p:=h
theorem mA(l:List bA)(B:Nat)(h:∀x,x∈l->x.size<=B):(jP l).length<=l.length*(B+1):=by
 induction l with
 |nil=>simp[jP]
 |cons x l ih=>
  have h1:=ih (fun y hy=>h y (List.mem_cons_of_mem _ hy));have h2:=h x (List.mem_cons_self ..);have e:jP (x::l)=x.data.toList++[10]++jP l:=by simp[jP]
  rw[e];have:x.data.toList.length=x.size:=YR;simp only[List.length_append,this,List.length_cons,List.length_nil];rw[Nat.add_mul];omega
theorem join_length(l:List bA)(B:Nat)(h:∀x,x∈l->x.size<=B):(Lib.join (l.map (·.data.toList)) []).length<=l.length*B:=by
 have:Lib.join (l.map (·.data.toList)) []=(l.map (·.data.toList)).flatten:=by
  unfold Lib.join
  induction l.map (·.data.toList) with
  |nil=>rfl
  |cons x r ih=>cases r<;>simp_all [List.intercalate,List.intersperse]
 rw[this];clear this
 induction l with
 |nil=>simp
 |cons x l ih=>
  have h1:=ih (fun y hy=>h y (List.mem_cons_of_mem _ hy));have h2:=h x (List.mem_cons_self ..);have:x.data.toList.length=x.size:=YR;simp only[List.map_cons,List.flatten_cons,List.length_append,this,List.length_cons];rw[Nat.add_mul];omega
theorem oX(order:List Int):∀(f u:Nat)(l:List bA),(fH order f u l).length<=f
 |0,_,_=>by simp[fH]
 |f+1,u,l=>by
  rw[fH];split
  ·simp
  have:=oX order f (u+1) (l.eraseIdx (kW (order.getD u 0) l.length));rw[List.length_cons];omega
theorem isName_size{s:bA}(h:isName s=true):s.size<=20:=by
 simp[isName] at h;exact h.2
theorem qO(t:bA)(ht:t.size<=65536):(jP (cY t)).length<=140737488355328:=by
 unfold cY;split
 ·simp[jP]
 have yM:=trim_size t;have hcnt:=Lib.countB_le nl YO t.size _ yM;have hl:=linesOf_length t
 have h:=mA (gA (nC t)) 65536 (fun x hx=>by
  have:=splitB_size nl _ _ x (lR hx)
  omega)
 rw[gB] at h;have:(nC t).length*(65536+1)<=65537*65537:=Nat.mul_le_mul YM YM;omega
def StrsOff(b:Nat)(w:World)(v:Value)(l:List bA):Prop:=Strs w v l/\∀a n c,v=.slice (some a) n c->l≠[]->b<a.block
theorem StrsOff.only{b:Nat}{w w':World}{v:Value}{l:List bA}(h:StrsOff b w v l)(ho:dU b w w'):StrsOff b w' v l:=by
 refine⟨?_,h.2⟩;obtain⟨a,c,hv,h1,h2,h3⟩:=h.1;refine⟨a,c,hv,h1,h2,fun rO=>?_⟩;obtain⟨b',o',ha,hc⟩:=h3 rO;refine⟨b',o',ha,fun i x' hx=>?_⟩;obtain⟨cs,e,hl,hj⟩:=hc i x' hx;exact⟨cs,e,hl,fun j u hu=>ho.cell (Nat.ne_of_gt (h.2 ⟨b',o',none⟩ l.length c (by rw[hv,ha]) rO)) (hj j u hu)⟩
def IntsOff(b:Nat)(w:World)(v:Value)(l:List Int):Prop:=nA w v l/\∀a n c,v=.slice (some a) n c->l≠[]->a.block≠b
theorem IntsOff.only{b:Nat}{w w':World}{v:Value}{l:List Int}(h:IntsOff b w v l)(ho:dU b w w'):IntsOff b w' v l:=by
 refine⟨?_,h.2⟩;obtain⟨a,c,hv,h1,h2,h3⟩:=h.1;refine⟨a,c,hv,h1,h2,fun rO=>?_⟩;obtain⟨b',o',ha,hc⟩:=h3 rO;refine⟨b',o',ha,fun i x' hx=>?_⟩;obtain⟨cs,e,hl,hj⟩:=hc i x' hx;exact⟨cs,e,hl,fun j u hu=>ho.cell (h.2 ⟨b',o',none⟩ l.length c (by rw[hv,ha]) rO) (hj j u hu)⟩
theorem lK{s:Stp}(h:cW s=true):(∀x,x∈s.src->isName x=true)/\isName s.out=true/\s.src.length<=60/\
  (s.kind=2\/s.kind=1/\s.sorted=false\/(s.kind=0\/s.kind=3\/s.kind=4\/s.kind=5)/\s.src.length=1/\s.sorted=false):=by
 unfold cW at h;split at h
 ·cases h
 rename_i h0
 have h0':isName s.out=true/\∀x,x∈s.src->isName x=true:=by
  simp at h0;exact⟨h0.1,fun x hx=>by simpa using h0.2 x hx⟩
 refine⟨h0'.2,h0'.1,?_⟩;split at h
 ·rename_i h2;simp at h;exact⟨h,.inl h2⟩
 split at h
 ·rename_i h1;simp at h;exact⟨h.1,.inr (.inl ⟨h1,h.2⟩)⟩
 split at h
 ·rename_i h3;simp at h;exact⟨YM,.inr (.inr ⟨h3,h.1,h.2⟩)⟩
 cases h
structure WriteIn (s:Stp) (saw:List bA) (clock order:List Int) (b:Nat) (vs clk ord nxt vf:Value) (u0 u1:Int) (w:World):Prop where
 hglob:eJ w
 hb:11<=b
 hsbx:Sbx w b vs clk ord nxt u0 u1
 hsaw:StrsOff b w vs saw
 hclk:IntsOff b w clk clock
 hord:IntsOff b w ord order
 hsrc:Strs w vf s.src
 hright:cW s=true
 htexts:∀x,x∈saw->x.size<=65536
 hlen:saw.length=s.src.length
 hu0:0<=u0/\u0<=1152921504606846976
 hu1:0<=u1/\u1<=1152921504606846976
 hcwf:∀x,x∈clock->(Lit.int .i64 x).wf=true
 howf:∀x,x∈order->(Lit.int .i64 x).wf=true
theorem write_any(s:Stp)(saw:List bA)(clock order:List Int)(b:Nat)(vs clk ord nxt vf:Value)(u0 u1:Int)(w:World)(h:WriteIn s saw clock order b vs clk ord nxt vf u0 u1 w)(h5:s.kind≠5):
  Calls Tryz.prog 107 #[.pointer (some ⟨b,0,none⟩),pA s.kind vf s.out s.sorted] w fun e w'=>∃vs',
   e=.returned (.tuple #[.string (cV s saw clock order u0 u1).1,.int .i64 0])/\Sbx w' b vs' clk ord nxt (cV s saw clock order u0 u1).2.2.1 (cV s saw clock order u0 u1).2.2.2/\
   StrsOff b w' vs' (cV s saw clock order u0 u1).2.1/\dU b w w':=by
 obtain⟨hn,hout,hl,hk⟩:=lK h.hright;have hf:∃a n c,vf=.slice a n c:=by obtain⟨a,c,hv,-⟩:=h.hsrc;exact⟨a,_,c,hv⟩
 obtain⟨kind,src,out,sorted⟩:=s;simp only at hn hout hl hk h5 hf ⊢;by_cases k01:kind=0\/kind=1
 ·have e:cV ⟨kind,src,out,sorted⟩ saw clock order u0 u1=(joinB saw,saw,u0,u1):=by simp[cV,k01]
  rw[e];have hj:=join_length saw 65536 h.htexts;have hlen:saw.length<=60:=by have:=h.hlen;simp only at this;omega
  refine(write_join b saw vs clk ord nxt u0 u1 kind vf out sorted w h.hsbx h.hsaw.1 k01 hf (Nat.le_trans hj YM) YM).mono ?_;exact X0
 by_cases k3:kind=3
 ·subst k3;have e:cV ⟨3,src,out,sorted⟩ saw clock order u0 u1=(rowsB (cY (saw.headD ByteArray.empty)),saw,u0,u1):=by simp[cV]
  rw[e]
  obtain⟨t,rfl⟩:∃t,saw=[t]:=by
   have:=h.hlen;simp only at this;have h1:saw.length=1:=YM;exact List.length_eq_one_iff.1 h1
  have ht:=h.htexts t YR;refine(write_sort b t vs clk ord nxt u0 u1 vf out sorted w h.hglob h.hsbx h.hsaw.1 hf YM (qO t ht)).mono ?_;exact X0
 by_cases k4:kind=4
 ·subst k4;have e:cV ⟨4,src,out,sorted⟩ saw clock order u0 u1=(stampB (saw.headD ByteArray.empty) (clock.getD u0.toNat 0),saw,u0+1,u1):=by simp[cV]
  rw[e]
  obtain⟨t,rfl⟩:∃t,saw=[t]:=by
   have:=h.hlen;simp only at this;have h1:saw.length=1:=YM;exact List.length_eq_one_iff.1 h1
  have ht:=h.htexts t YR;refine(write_stamp b t clock vs clk ord nxt u0 u1 vf out sorted w h.hglob h.hsbx h.hsaw.1 (fun a n c e=>Nat.ne_of_gt (h.hsaw.2 a n c e YR)) h.hclk.1 hf YM h.hu0.1 (by have:=h.hu0.2;omega) h.hb h.hcwf).mono ?_;exact X0
 have k2:kind=2:=YM;subst k2;have tK:∀x,x∈src->x.size<=20:=fun x hx=>isName_size (hn x hx);have hsrc:Strs w vf src:=h.hsrc
 cases sorted with
 |true=>
  have e:cV ⟨2,src,out,true⟩ saw clock order u0 u1=(rowsB (gA src),[],u0,u1):=by simp[cV]
  rw[e];have hr:=mA (gA src) 20 (fun x hx=>tK x (lR hx));rw[gB] at hr;refine(write_list b (gA src) vs clk ord nxt u0 u1 u1 vf out true w h.hsbx hf (fun W hb=>?_) YM).mono ?_
  ·refine(list_sorted b src vf W (hsrc.later hb) YM).mono ?_;rintro e w' ⟨v,rfl,h1,h2,h3⟩;exact⟨v,rfl,h1,h2,(h.hsbx.later hb).later h3,dU.of_below h3⟩
  exact XQ
 |false=>
  have e:cV ⟨2,src,out,false⟩ saw clock order u0 u1=(rowsB (fH order src.length u1.toNat (gA src)),[],u0,u1+src.length):=by simp[cV]
  rw[e];have hr:=mA (fH order src.length u1.toNat (gA src)) 20 (fun x hx=>tK x (lR (pQ hx)));have hpl:=oX order src.length u1.toNat (gA src);have OP:(fH order src.length u1.toNat (gA src)).length*(20+1)<=60*21:=Nat.mul_le_mul YM YM;have hu:=h.hu1;refine(write_list b (fH order src.length u1.toNat (gA src)) vs clk ord nxt u0 u1 (u1+src.length) vf out false w h.hsbx hf (fun W hb=>?_) YM).mono ?_
  ·have JZ:Sbx W b vs clk ord nxt u0 ((u1.toNat:Nat):Int):=(h.hsbx.later hb).cast YM;refine(list_picks b vs clk nxt ord u0 u1.toNat order src vf W JZ (fun W' ho=>(h.hord.only ((dU.of_below hb).trans ho)).1) (hsrc.later hb) YM YM h.howf).mono ?_;rintro e w' ⟨v,rfl,h1,h2,h3,h4⟩;exact⟨v,rfl,h1,h2,h3.cast YM,h4⟩
  exact XQ
theorem VQ{p:Prop}(h:p:=by
 obtain⟨⟨a1,c1,e1⟩,⟨a2,c2,e2⟩,⟨a3,n3,c3,e3⟩,⟨a4,n4,c4,e4⟩,⟨a5,n5,c5,e5⟩⟩:=nX h
 have HR:Hid (∀W,Below w.heap.size w W->Calls Tryz.prog 105 #[pA s.kind vf s.out s.sorted] W fun e w'=>e=.returned (.bool true)/\Below W.heap.size W w'):=
  zh fun W hb=>xQ▸iU s vf W (h.hsrc.later hb) h.hout
 have HF:Hid (∀W,Below w.heap.size w W->Calls Tryz.prog 104 #[vl] W fun e w'=>e=.returned (.bool true)/\Below W.heap.size W w'):=
  zh fun W hb=>wB▸kN files vl W (h.hfil.later hb)
 have R9:Hid (∀W x,Below w.heap.size w W->Calls Tryz.prog 103 #[vl,.string x] W fun e w'=>e=.returned (nK files x)/\Below W.heap.size W w'):=
  zh fun W x hb=>find_any files vl x W (h.hfil.later hb)
 have NW:=zh h;obtain⟨kind,src,out,sorted⟩:=s;have hu0:=h.hu0;have hu1:=h.hu1;clear h;simp only at e1;subst e1 e2 e3 e4 e5;unfold mW;simp only at HR HF ⊢;have sM:=iT.made w kind (.slice a1 src.length c1) out sorted (.slice a3 n3 c3) (.slice a4 n4 c4) (.slice a5 n5 c5) u0 u1;have uJ:=zh sM;clear sM xQ wB;simp only at HT;go_enter Tryz.func40,Tryz.ntmps40;go_wp2_with fail;refine(HR.out _ uJ.out.below).mono ?_;rintro e w1 ⟨rfl,rR⟩;have sT:=zh (uJ.out.later rR);clear uJ rR;go_wp2_with fail;refine(HF.out _ sT.out.below).mono ?_;rintro e w2 ⟨rfl,rQ⟩;have rZ:=zh (sT.out.later rQ);clear sT rQ;obtain⟨s0,s1,s2,s3,y0,y1,y2,x0,x1,r0,r1,f0,f1⟩:=rZ.out.cells;go_wp2_with fail;refine(R9.out _ _ rZ.out.below).mono ?_;rw[HT.out];rintro e w3 ⟨rfl,tI⟩;have tX:=zh (rZ.out.later tI);clear rZ tI s0 s1 s2 s3 y0 y1 y2 x0 x1 r0 r1 f0 f1;obtain⟨s0,s1,s2,s3,y0,y1,y2,x0,x1,r0,r1,f0,f1⟩:=tX.out.cells;go_wp2_with fail;go_region
 go_wp2_with fail
 exact tX.out.err rfl rfl rfl rfl rfl fun W' hW=>⟨rfl,hW⟩):p:=h
theorem WH{p:Prop}(h:p:=by
 clear uZ;go_enter Tryz.func40,Tryz.ntmps40;go_wp2_with fail;refine(HR.out _ uJ.out.below).mono ?_;rintro e w1 ⟨rfl,rR⟩;have sT:=zh (uJ.out.later rR);clear uJ rR;go_wp2_with fail;refine(HF.out _ sT.out.below).mono ?_;rintro e w2 ⟨rfl,rQ⟩;have rZ:=zh (sT.out.later rQ);clear sT rQ;obtain⟨-,-,-,-,-,-,-,x0,x1,r0,r1,f0,f1⟩:=rZ.out.cells;go_wp2_with fail;go_region
 go_wp2_with fail
 exact rZ.out.err rfl rfl rfl rfl rfl fun W' hW=>⟨rfl,hW⟩):p:=h
theorem res_cells{w:World}{b:Nat}{u v x y:Value}(h0:w.cell? ⟨b,0,none⟩=some x)(h1:w.cell? ⟨b,1,none⟩=some y):
  ((w.setCell ⟨b,0,none⟩ u).setCell ⟨b,1,none⟩ v).drew.cell? ⟨b,0,none⟩=some u/\((w.setCell ⟨b,0,none⟩ u).setCell ⟨b,1,none⟩ v).drew.cell? ⟨b,1,none⟩=some v:=by
 obtain⟨c,e,fr,hb,RH⟩:=Sort.cells_of_cell? h0;obtain⟨c',e',fr',uR,DP⟩:=Sort.cells_of_cell? h1;rw[hb] at uR;cases uR;have i0:0<c.size:=by rcases Nat.lt_or_ge 0 c.size with h|h;exact h;rw[Array.getElem?_eq_none h] at RH;cases RH
 have i1:1<c.size:=by rcases Nat.lt_or_ge 1 c.size with h|h;exact h;rw[Array.getElem?_eq_none h] at DP;cases DP
 have hH:((w.setCell ⟨b,0,none⟩ u).setCell ⟨b,1,none⟩ v).drew.heap[b]? =some (.cells ((c.setIfInBounds 0 u).setIfInBounds 1 v) e fr):=by
  show((w.setCell ⟨b,0,none⟩ u).setCell ⟨b,1,none⟩ v).heap[b]? =_;simp[World.setCell,Array.getElem?_modify,hb]
 constructor
 ·simp only[World.cell?,hH];simp[i0]
 simp only[World.cell?,hH];simp[i1]
structure DoIn (s:Stp) (files:List Fil) (clock order:List Int) (vf vl vc vo vn:Value) (u0 u1:Int) (w:World):Prop where
 hglob:eJ w
 hsrc:Strs w vf s.src
 hout:s.out.size<=140737488355328
 hfil:pJ w vl files
 hclk:nA w vc clock
 hord:nA w vo order
 hnxt:∃a n c,vn=.slice a n c
 hu0: -9223372036854775808<=u0/\u0<=1152921504606846976
 hu1: -9223372036854775808<=u1/\u1<=1152921504606846976
 hcwf:∀x,x∈clock->(Lit.int .i64 x).wf=true
 howf:∀x,x∈order->(Lit.int .i64 x).wf=true
abbrev mW(s:Stp)(vf vl vc vo vn:Value)(u0 u1:Int):Array Value:=
 #[pA s.kind vf s.out s.sorted,vl,.agg #[vc,vo,vn],.agg #[.int .i64 u0,.int .i64 u1]]
abbrev doErr(u0 u1 e:Int):Value:=.tuple #[.slice none 0 0,.slice none 0 0,.agg #[.int .i64 u0,.int .i64 u1],.int .i64 e]
theorem nX{s:Stp}{files:List Fil}{clock order:List Int}{vf vl vc vo vn:Value}{u0 u1:Int}{w:World}(h:DoIn s files clock order vf vl vc vo vn u0 u1 w):
  (∃a c,vf=.slice a s.src.length c)/\(∃a c,vl=.slice a files.length c)/\(∃a n c,vc=.slice a n c)/\(∃a n c,vo=.slice a n c)/\(∃a n c,vn=.slice a n c):=by
 obtain⟨a1,c1,h1,-⟩:=h.hsrc;obtain⟨a2,c2,h2,-⟩:=h.hfil;obtain⟨a3,c3,h3,-⟩:=h.hclk;obtain⟨a4,c4,h4,-⟩:=h.hord;exact⟨⟨a1,c1,h1⟩,⟨a2,c2,h2⟩,⟨a3,_,c3,h3⟩,⟨a4,_,c4,h4⟩,h.hnxt⟩
structure iT (w W:World) (kind:Int) (vf:Value) (out:bA) (sorted:Bool) (vc vo vn:Value) (u0 u1:Int):Prop where
 bs:W.heap[w.heap.size]? =some (.cells #[.int .i64 kind,vf,.string out,.bool sorted] 63 (0,0))
 bw:W.heap[w.heap.size+1]? =some (.cells #[vc,vo,vn] 72 (0,0))
 bu:W.heap[w.heap.size+1+1]? =some (.cells #[.int .i64 u0,.int .i64 u1] 65 (0,0))
 br:W.heap[w.heap.size+1+1+1]? =some (.cells #[.int .i64 0,.int .i64 0] 65 (0,0))
 below:Below w.heap.size w W
theorem jC{W:World}{k:Nat}{o:Obj}(h:W.heap[k]? =some o):k<W.heap.size:=(Array.getElem?_eq_some_iff.1 h).1
theorem iT.made(w:World)(kind:Int)(vf:Value)(out:bA)(sorted:Bool)(vc vo vn:Value)(u0 u1:Int):
  iT w ((((w.alloc (.cells #[.int .i64 kind,vf,.string out,.bool sorted] 63)).alloc (.cells #[vc,vo,vn] 72)).alloc (.cells #[.int .i64 u0,.int .i64 u1] 65)).alloc (.cells #[.int .i64 0,.int .i64 0] 65)) kind vf out sorted vc vo vn u0 u1:=by
 refine⟨?_,?_,?_,?_,((((Below.refl _ w).alloc (Nat.le_refl _) _).alloc YR _).alloc Y9 _).alloc Y9 _⟩
 ·rw[Below.heap_alloc _ _ _ Y9,Below.heap_alloc _ _ _ Y9,Below.heap_alloc _ _ _ YR,dR]
 ·rw[Below.heap_alloc _ _ _ YR,Below.heap_alloc _ _ _ YR];have h:=dR (w.alloc (.cells #[.int .i64 kind,vf,.string out,.bool sorted] 63)) (.cells #[vc,vo,vn] 72);simpa only[World.size_alloc] using h
 ·rw[Below.heap_alloc _ _ _ YR];have h:=dR ((w.alloc (.cells #[.int .i64 kind,vf,.string out,.bool sorted] 63)).alloc (.cells #[vc,vo,vn] 72)) (.cells #[.int .i64 u0,.int .i64 u1] 65);simpa only[World.size_alloc] using h
 have h:=dR (((w.alloc (.cells #[.int .i64 kind,vf,.string out,.bool sorted] 63)).alloc (.cells #[vc,vo,vn] 72)).alloc (.cells #[.int .i64 u0,.int .i64 u1] 65)) (.cells #[.int .i64 0,.int .i64 0] 65);simpa only[World.size_alloc] using h
section
variable {w W W':World} {kind:Int} {vf:Value} {out:bA} {sorted:Bool} {vc vo vn:Value} {u0 u1:Int}
theorem iT.later(h:iT w W kind vf out sorted vc vo vn u0 u1)(hb:Below W.heap.size W W'):iT w W' kind vf out sorted vc vo vn u0 u1:=
 ⟨(hb.block _ (jC h.bs)).trans h.bs,(hb.block _ (jC h.bw)).trans h.bw,(hb.block _ (jC h.bu)).trans h.bu,(hb.block _ (jC h.br)).trans h.br,aC h.below hb⟩
theorem iT.only{b:Nat}(h:iT w W kind vf out sorted vc vo vn u0 u1)(hb:dU b W W')(AE:w.heap.size+1+1+1<b):iT w W' kind vf out sorted vc vo vn u0 u1:=
 ⟨(hb.block _ (jC h.bs) YM).trans h.bs,(hb.block _ (jC h.bw) YM).trans h.bw,(hb.block _ (jC h.bu) YM).trans h.bu,(hb.block _ (jC h.br) YM).trans h.br,hb.below h.below YM (by have:=jC h.bs;omega)⟩
theorem iT.cells(h:iT w W kind vf out sorted vc vo vn u0 u1):
  W.cell? ⟨w.heap.size,0,none⟩=some (.int .i64 kind)/\W.cell? ⟨w.heap.size,1,none⟩=some vf/\W.cell? ⟨w.heap.size,2,none⟩=some (.string out)/\W.cell? ⟨w.heap.size,3,none⟩=some (.bool sorted)/\
  W.cell? ⟨w.heap.size+1,0,none⟩=some vc/\W.cell? ⟨w.heap.size+1,1,none⟩=some vo/\W.cell? ⟨w.heap.size+1,2,none⟩=some vn/\
  W.cell? ⟨w.heap.size+1+1,0,none⟩=some (.int .i64 u0)/\W.cell? ⟨w.heap.size+1+1,1,none⟩=some (.int .i64 u1)/\
  W.cell? ⟨w.heap.size+1+1+1,0,none⟩=some (.int .i64 0)/\W.cell? ⟨w.heap.size+1+1+1,1,none⟩=some (.int .i64 0)/\
  W.frozen? ⟨w.heap.size+1+1+1,0,none⟩=false/\W.frozen? ⟨w.heap.size+1+1+1,1,none⟩=false:=by
 obtain⟨h1,h2,h3,h4,-⟩:=h;refine⟨?_,?_,?_,?_,?_,?_,?_,?_,?_,?_,?_,?_,?_⟩<;>simp[World.cell?,World.frozen?,h1,h2,h3,h4]
theorem iT.err{e:Int}{a:Act}(h:iT w W kind vf out sorted vc vo vn u0 u1)(h8:a.tmps[8]?.getD undef=.slice none 0 0)(h9:a.tmps[9]?.getD undef=.slice none 0 0)(CK:a.tmps[10]?.getD undef=.pointer (some ⟨w.heap.size+1+1+1,0,none⟩))(h11:a.tmps[11]?.getD undef=.int .i64 e)(hd:a.defers=[]){R:Ending->World->Prop}
  (hR:∀W',Below w.heap.size w W'->R (.returned (doErr u0 u1 e)) W'):
  bodyPost Tryz.prog Tryz.f40 R .ret a ((W.setCell ⟨w.heap.size+1+1+1,0,none⟩ (.int .i64 u0)).setCell ⟨w.heap.size+1+1+1,1,none⟩ (.int .i64 u1)).drew:=by
 obtain⟨-,-,-,-,-,-,-,-,-,r0,r1,-,-⟩:=h.cells;have hr:=res_cells (w:=W) (b:=w.heap.size+1+1+1) (u:=.int .i64 u0) (v:=.int .i64 u1) r0 r1;refine bodyPost_ret (v:=doErr u0 u1 e) (by simp[results,Tryz.results40,go_sem,hr.1,hr.2,h8,h9,CK,h11]) hd (hR _ ?_);exact((h.below.setCell Y9 _).setCell Y9 _).drew
end
theorem do_arg(s:Stp)(files:List Fil)(clock order:List Int)(vf vl vc vo vn:Value)(u0 u1:Int)(w:World)(h:DoIn s files clock order vf vl vc vo vn u0 u1 w)
  (uZ:cW s=false\/cX files=false\/min u0 u1<0):
  Calls Tryz.prog 40 (mW s vf vl vc vo vn u0 u1) w fun e w'=>e=.returned (doErr u0 u1 1)/\Below w.heap.size w w':=by
 obtain⟨⟨a1,c1,e1⟩,⟨a2,c2,e2⟩,⟨a3,n3,c3,e3⟩,⟨a4,n4,c4,e4⟩,⟨a5,n5,c5,e5⟩⟩:=nX h
 have HR:Hid (∀W,Below w.heap.size w W->Calls Tryz.prog 105 #[pA s.kind vf s.out s.sorted] W fun e w'=>e=.returned (.bool (cW s))/\Below W.heap.size W w'):=
  zh fun W hb=>iU s vf W (h.hsrc.later hb) h.hout
 have HF:Hid (∀W,Below w.heap.size w W->Calls Tryz.prog 104 #[vl] W fun e w'=>e=.returned (.bool (cX files))/\Below W.heap.size W w'):=
  zh fun W hb=>kN files vl W (h.hfil.later hb)
 obtain⟨kind,src,out,sorted⟩:=s;have hu0:=h.hu0;have hu1:=h.hu1;clear h;simp only at e1;subst e1 e2 e3 e4 e5;unfold mW;simp only at HR HF ⊢;generalize cW ⟨kind,src,out,sorted⟩=r1 at HR uZ;generalize cX files=r2 at HF uZ;have sM:=iT.made w kind (.slice a1 src.length c1) out sorted (.slice a3 n3 c3) (.slice a4 n4 c4) (.slice a5 n5 c5) u0 u1;have uJ:=zh sM;clear sM
 cases r1 with
 |false=>
  clear uZ HF;go_enter Tryz.func40,Tryz.ntmps40;go_wp2_with fail;refine(HR.out _ uJ.out.below).mono ?_;rintro e w1 ⟨rfl,rR⟩;have sT:=zh (uJ.out.later rR);clear uJ rR;obtain⟨-,-,-,-,-,-,-,x0,x1,r0,r1,f0,f1⟩:=sT.out.cells;go_wp2_with fail;go_region
  go_wp2_with fail;exact sT.out.err rfl rfl rfl rfl rfl fun W' hW=>⟨rfl,hW⟩
 |true=>
  cases r2 with
  |false=>
   exact WH
  |true=>
   (have zB:min u0 u1<0:=by simpa using uZ);exact WH
theorem do_twice(s:Stp)(files:List Fil)(clock order:List Int)(vf vl vc vo vn:Value)(u0 u1:Int)(w:World)(h:DoIn s files clock order vf vl vc vo vn u0 u1 w)
  (xQ:cW s=true) (wB:cX files=true) (zB:¬min u0 u1<0) (t:bA) (ht:dK files s.out=some t):
  Calls Tryz.prog 40 (mW s vf vl vc vo vn u0 u1) w fun e w'=>e=.returned (doErr u0 u1 5)/\Below w.heap.size w w':=by
 have HT:=zh (show nK files s.out=.tuple #[.string t,.bool true] by unfold nK;rw[ht]);clear ht;exact VQ
theorem do_full(s:Stp)(files:List Fil)(clock order:List Int)(vf vl vc vo vn:Value)(u0 u1:Int)(w:World)(h:DoIn s files clock order vf vl vc vo vn u0 u1 w)
  (xQ:cW s=true) (wB:cX files=true) (zB:¬min u0 u1<0) (ht:dK files s.out=none) (xS:60<=files.length):
  Calls Tryz.prog 40 (mW s vf vl vc vo vn u0 u1) w fun e w'=>e=.returned (doErr u0 u1 6)/\Below w.heap.size w w':=by
 have HT:=zh (show nK files s.out=.tuple #[.string ByteArray.empty,.bool false] by unfold nK;rw[ht]);clear ht;exact VQ
end Go.Proofs.YtiionicikdnnpaaGreatDoor
