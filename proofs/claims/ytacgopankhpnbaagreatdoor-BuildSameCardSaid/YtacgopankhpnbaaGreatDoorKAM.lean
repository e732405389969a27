/- Texts of this seat, joined. -/
import Derived.Test.YtacgopankhpnbaaGreatDoorKAL
set_option linter.unusedVariables false
set_option linter.unusedSimpArgs false
namespace Go.Proofs.YtacgopankhpnbaaGreatDoor
set_option maxHeartbeats 4000000
set_option maxRecDepth 100000
open Go.RowKit
theorem rG{p:Prop}(h:p:=by
 try simp only[z1,z2,z3]
 go_simp;refine hK.out _ _ HO2.out (fun hS=>?_);clear hK K;try simp only[zn]
 refine wpAnyH_ready (rs:=[7]) vU vZ ?_;refine AllReadyH.cons rfl (fun K hK=>?_) AllReadyH.nil;refine step_append_lies ((w.alloc (.cells #[.int .i64 i.op,.int .i64 i.a,.string i.s,.string i.m,.slice an i.names.length cn] 171)).drew.alloc (.cells #[.int .i64 i.op,.int .i64 i.a,.string i.s,.string i.m,.slice an i.names.length cn] 171)) rfl _ _ 166 rfl B 171 i0 (.agg #[.int .i64 0,.int .i64 0,.string ByteArray.empty,.string ByteArray.empty,.slice none 0 0]) 5 72 Tryz.underlying166 hi0 hz0 hz1 hz2 rfl vT (.slice a n cp) n css.flatten xK hown2.out ⟨w.heap.size+1,0,none⟩ 1 1 [.int .i64 i.op,.int .i64 i.a,.string i.s,.string i.m,.slice an i.names.length cn] xK rfl (World.news_of_block (cs:=#[.int .i64 i.op,.int .i64 i.a,.string i.s,.string i.m,.slice an i.names.length cn]) (t:=171) (fr:=(0,0)) (by simpa using heap_alloc_new (w.alloc (.cells #[.int .i64 i.op,.int .i64 i.a,.string i.s,.string i.m,.slice an i.names.length cn] 171)).drew (.cells #[.int .i64 i.op,.int .i64 i.a,.string i.s,.string i.m,.slice an i.names.length cn] 171))) wN vT wK vT wQ (w.heap.size+2) vZ ?_;intro g cap w3 hown3 hgrow hat hg3;have HO3:=zh (HO2.out.trans ((Off.of_grown hgrow).mono fun b hb=>.inr hb));obtain⟨q0,q1,q2⟩:=HH.out.push HB2.out HI2.out rfl (by rw[HN.out];exact hown3) hgrow zL;rw[HN.out] at q1 q2;have Q1:=zh q1;have Q2:=zh q2;obtain⟨⟨p0,p1,p2⟩,r0,r1,r2⟩:=bx3 q0;clear q0 q1 q2 hown3 hgrow hat b0 b1 b2 f0 f1 f2 hown2 HB2 HI2;refine hK.out _ _ HO3.out (fun hS=>?_);clear hK K;try simp only[zn]
 refine zt 8 (.pointer (some ⟨cb,0,none⟩)) rfl (fun W hW=>vW) hS ?_;try simp only[zn]
 refine zt 9 (.pointer (some ⟨cb,1,none⟩)) rfl (fun W hW=>vW) hS ?_;try simp only[zn]
 refine zr 10 rfl (fun K hK=>?_);try simp only[z1,z2,z3]
 go_simp;refine hK.out _ _ (HO3.out.trans (Off.setCell (S:=inC cb _) w3 (.inl rfl))) (fun hS=>?_);clear hK K;try simp only[zn]
 refine wpAnyH_done vU ?_ _;clear hS;have pz:(w3.setCell ⟨cb,1,none⟩ (.slice (some ⟨g,0,none⟩) (n+1) cap)).cell? ⟨cb,1,none⟩=some (.slice (some ⟨g,0,none⟩) (n+1) cap):=(bx3 Q1.out.box).1.2.1;generalize w3.setCell ⟨cb,1,none⟩ (.slice (some ⟨g,0,none⟩) (n+1) cap)=w4 at *;go_wp2_with fail;go_ret
 exact⟨_,_,wH,Q1.out,Q2.out⟩):p:=h
theorem Off.of_grown{v:Value}{w w':World}(h:w.grownBy w' v.ownBlock):Off (fun b=>v.ownBlock=some b) w w':=⟨h.os,h.tape,h.output,h.size,fun k hk hn=>h.block k hk (fun e=>hn e.symm)⟩
theorem Cp.push{B cb:Nat}{vars:List Fld}{vv v:Value}{c:Cmp}{css:List (List Value)}{w w2 w3:World}{i:Ins}{news:List Value}{g cap:Nat}(h:Cp B cb vars vv c css v w)(hb:Below w.heap.size w w2)
  (hi:oS (mK B v) w2 i news) (hn5:news.length=5) (hown:w3.ownsRow B 171 5 (.slice (some ⟨g,0,none⟩) (c.code.length+1) cap) (c.code.length+1) (css.flatten++news)) (hgrow:w2.grownBy w3 v.ownBlock) (hat:v.ownBlock=some g\/g=w2.heap.size):
  w3.heap[cb]? =some (.cells #[vv,v,.int .i64 (c.locals:Int)] 182)/\Cp B cb vars vv (c.put i) (css++[news]) (.slice (some ⟨g,0,none⟩) (c.code.length+1) cap) (w3.setCell ⟨cb,1,none⟩ (.slice (some ⟨g,0,none⟩) (c.code.length+1) cap))/\
   Ext cb v w (.slice (some ⟨g,0,none⟩) (c.code.length+1) cap) (w3.setCell ⟨cb,1,none⟩ (.slice (some ⟨g,0,none⟩) (c.code.length+1) cap)):=by
 have h2:=h.later hb;have hcb:=h.hcb;have ho3:=Off.of_grown hgrow;have hne:¬v.ownBlock=some cb:=fun e=>by have:=(h.own cb e).1;omega
 have hbox3:=ho3.heap hne h2.box;have hg3:=h2.gro.added hU hi hn5 hown hgrow hat
 have hx:Ext cb v w (.slice (some ⟨g,0,none⟩) (c.code.length+1) cap) (w3.setCell ⟨cb,1,none⟩ (.slice (some ⟨g,0,none⟩) (c.code.length+1) cap)):=by
  refine⟨(Off.of_below hb).trans ((ho3.mono fun b hb=>.inr hb).trans (Off.setCell (S:=inC cb v) w3 (.inl rfl))),fun b hb2=>?_⟩;have e:g=b:=by simpa[Value.ownBlock] using hb2
  subst e;rcases hat with h1|h1
  ·exact .inl h1
  ·have:=hb.size;exact .inr vT
 refine⟨hbox3,h.put hx ?_ (hg3.stays hU (dK.of_off (Off.setCell (S:=fun b=>b=cb) w3 rfl) fun b hb=>.inl (by have hb:b=cb:=hb;omega))),hx⟩;rw[aU hbox3];rfl
theorem Cp.form{B cb:Nat}{vars:List Fld}{vv v:Value}{c:Cmp}{css:List (List Value)}{w:World}(h:Cp B cb vars vv c css v w):∃a cp,v=.slice a c.code.length cp:=by
 rcases h.gro.val with⟨rfl,h0⟩|⟨g,cap,rfl,-⟩
 ·exact⟨none,0,by rw[h0];rfl⟩
 ·exact⟨_,_,rfl⟩
theorem nJ{B cb:Nat}{vars:List Fld}{vv v:Value}{c:Cmp}{css:List (List Value)}{w:World}(i:Ins)(vn:Value)(h:Cp B cb vars vv c css v w)(hlen:c.code.length<=100000000000)
  (hi:oS (mK B v) w i [.int .i64 i.op,.int .i64 i.a,.string i.s,.string i.m,vn]):
  Calls Tryz.prog 115 #[.pointer (some ⟨cb,0,none⟩),.agg #[.int .i64 i.op,.int .i64 i.a,.string i.s,.string i.m,vn]] w fun e w'=>∃css' v',e=.returned (.int .i64 (c.code.length:Int))/\Cp B cb vars vv (c.put i) css' v' w'/\Ext cb v w v' w':=by
 obtain⟨i0,hi0,hz0,hz1,hz2⟩:=info_parts insInfo;have HH:=zh h;have HI:=zh hi;obtain⟨vn',hvn,-,-,hrn,-⟩:=hi;cases hvn;obtain⟨an,cn,rfl,-⟩:=hrn;have hcb:=h.hcb;have hlt:=h.lt;have hbig:=h.size_le;obtain⟨a,cp,rfl⟩:=h.form;have hb1:=(aA w (.cells #[.int .i64 i.op,.int .i64 i.a,.string i.s,.string i.m,.slice an i.names.length cn] 171)).drew;have hb2:=aB hb1 (aA (w.alloc (.cells #[.int .i64 i.op,.int .i64 i.a,.string i.s,.string i.m,.slice an i.names.length cn] 171)).drew (.cells #[.int .i64 i.op,.int .i64 i.a,.string i.s,.string i.m,.slice an i.names.length cn] 171));have hown2:=zh (h.later hb2).gro.own;have HB2:=zh hb2;have HI2:=zh (hU _ _ _ _ _ _ (bX.later hb2) HI.out);have hvv:∃a0 c0,vv=.slice a0 vars.length c0:=by obtain⟨a0,c0,e,-⟩:=h.row;exact⟨a0,c0,e⟩
 obtain⟨a0,c0,rfl⟩:=hvv;obtain⟨⟨b0,b1,b2⟩,f0,f1,f2⟩:=bx3 (h.later hb1).box;have hix:=(bx5 (show(w.alloc (.cells #[.int .i64 i.op,.int .i64 i.a,.string i.s,.string i.m,.slice an i.names.length cn] 171)).heap[w.heap.size]? =some (.cells #[.int .i64 i.op,.int .i64 i.a,.string i.s,.string i.m,.slice an i.names.length cn] 171) from heap_alloc_new w (.cells #[.int .i64 i.op,.int .i64 i.a,.string i.s,.string i.m,.slice an i.names.length cn] 171))).1;obtain⟨x0,x1,x2,x3,x4⟩:=hix
 have hnin:¬inC cb (.slice a c.code.length cp) w.heap.size:=fun e=>by
  rcases e with e|e
  ·omega
  ·have:=(h.own _ e).2;omega
 have HO1:Hid (Off (inC cb (.slice a c.code.length cp)) (w.alloc (.cells #[.int .i64 i.op,.int .i64 i.a,.string i.s,.string i.m,.slice an i.names.length cn] 171)) (w.alloc (.cells #[.int .i64 i.op,.int .i64 i.a,.string i.s,.string i.m,.slice an i.names.length cn] 171)).drew):=zh (Off.refl _ _).drew;have HO2:Hid (Off (inC cb (.slice a c.code.length cp)) (w.alloc (.cells #[.int .i64 i.op,.int .i64 i.a,.string i.s,.string i.m,.slice an i.names.length cn] 171)) ((w.alloc (.cells #[.int .i64 i.op,.int .i64 i.a,.string i.s,.string i.m,.slice an i.names.length cn] 171)).drew.alloc (.cells #[.int .i64 i.op,.int .i64 i.a,.string i.s,.string i.m,.slice an i.names.length cn] 171))):=zh (HO1.out.trans (Off.of_below (aA _ _)));clear hb1 hb2 h;generalize hln:c.code.length=n at *;have HN:=zh hln;clear hln;go_enter Tryz.func115,Tryz.ntmps115;go_wp2_with fail;refine wp_region_held_drew (S:=fun W=>Off (inC cb (.slice a n cp)) (w.alloc (.cells #[.int .i64 i.op,.int .i64 i.a,.string i.s,.string i.m,.slice an i.names.length cn] 171)) W) vU HO1.out fun hS=>?_;refine zt 0 (.pointer (some ⟨cb,0,none⟩)) rfl (fun W hW=>vW) hS ?_;try simp only[zn]
 refine zt 1 (.pointer (some ⟨cb,0,none⟩)) rfl (fun W hW=>vW) hS ?_;try simp only[zn]
 refine zt 2 (.pointer (some ⟨cb,0,none⟩)) rfl (fun W hW=>vW) hS ?_;try simp only[zn]
 refine zt 3 (.pointer (some ⟨cb,1,none⟩)) rfl (fun W hW=>vW) hS ?_;try simp only[zn]
 refine zt 5 (.agg #[.int .i64 i.op,.int .i64 i.a,.string i.s,.string i.m,.slice an i.names.length cn]) rfl (fun W hW=>by have y0:=Off.cell hW hnin x0;have y1:=Off.cell hW hnin x1;have y2:=Off.cell hW hnin x2;have y3:=Off.cell hW hnin x3;have y4:=Off.cell hW hnin x4;go_simp) hS ?_;try simp only[zn]
 refine wpAnyH_ready (rs:=[4,6]) vU vZ ?_;refine AllReadyH.cons rfl (fun K hK=>?_) (AllReadyH.cons rfl (fun K hK=>?_) AllReadyH.nil)
 ·skip;rw[if_pos vU];try simp only[z1,z2,z3]
  go_simp;refine hK.out _ _ hS (fun hS=>?_);clear hK K;try simp only[zn]
  refine zr 6 rfl (fun K hK=>?_);exact rG
 ·skip;rw[if_pos vU];try simp only[z1,z2,z3]
  go_simp;refine hK.out _ _ HO2.out (fun hS=>?_);clear hK K;try simp only[zn]
  have hlt1:cb<w.heap.size+1:=vT;have b1w:w.cell? ⟨cb,1,none⟩=some (.slice a n cp):=(bx3 HH.out.box).1.2.1;refine zr 4 rfl (fun K hK=>?_);exact rG
set_option maxHeartbeats 1000000
theorem rD{p:Prop}(h:p:=by
 repeat(first|exact Below.refl _ _|refine Below.drew ?_|refine Below.alloc ?_ xH _|refine Below.setCell ?_ xH _)):p:=h
theorem vB{p:Prop}(h:p:=by
 exact ho5.below (aB HB.out HB1.out) (fun k hk=>by have hk:k=w.heap.size+1:=hk;omega) (by have:=(aB HB.out HB1.out).size;exact this)):p:=h
theorem rowS_of_owns{w:World}{B:Nat}{v:Value}{l:List ByteArray}(h:w.ownsRow B 9 1 v l.length (l.map Value.string))(hb:B<=w.heap.size)(hs:∀x,x∈l->x.size<=140737488355328):aK 1 bM (bP B) w v l:=by
 have hf:(l.map fun x=>[Value.string x]).flatten=l.map Value.string:=by
  clear h hb hs
  induction l with
  |nil=>rfl
  |cons x l ih=>simp[ih]
 refine Gro.row (T:=9) (css:=l.map fun x=>[Value.string x]) aV ⟨by rw[hf];exact h,vZ,fun c hc=>?_,fun i x c hx hc=>?_,hb⟩
 ·obtain⟨x,-,rfl⟩:=List.mem_map.1 hc;rfl
 ·rw[List.getElem?_map,hx] at hc;cases hc;exact⟨rfl,hs x (List.mem_of_getElem? hx)⟩
theorem clones_any(l:List ByteArray)(v:Value)(w:World)(hl:l.length<=1000000)(hv:Strs w v l):
  Calls Tryz.prog 156 #[v] w fun e w'=>∃v',e=.returned v'/\w'.ownsRow w.heap.size 9 1 v' l.length (l.map Value.string)/\Below w.heap.size w w':=by
 rcases hv.cases with⟨rfl,a,c,rfl⟩|⟨b,o,c,rfl,h0,h1,h2,hb,hc⟩
 ·cases a with
  |none=>exact(Tryz.slices_Clone_string_nil 0 c w).mono fun e w' h=>⟨_,h.1,by rw[h.2];exact World.ownsRow_nil _ _ _ _,by rw[h.2];exact Below.refl _ _⟩
  |some a=>exact(Tryz.slices_Clone_string_zero a c w).mono fun e w' h=>by obtain⟨v',h1,h2,-,h3⟩:=h;exact⟨v',h1,h2,h3⟩
 ·refine(Tryz.slices_Clone_string b o l.length c l w (Nat.le_refl _) vT (fun j hj=>?_)).mono fun e w' h=>by obtain⟨v',h1,h2,-,h3⟩:=h;exact⟨v',h1,by simpa using h2,h3⟩
  rw[(hc j _ (List.getElem?_eq_getElem hj)).1,List.getD_eq_getElem?_getD,List.getElem?_eq_getElem hj];rfl
def cW(cb:Nat)(vars:List ByteArray)(x:Xp)(op n:Int)(s m:ByteArray)(vn va:Value)(w:World):Prop:=
 Calls Tryz.prog 158 #[.pointer (some ⟨cb,0,none⟩),.agg #[.int .i64 op,.int .i64 n,.string s,.string m,vn,va]] w fun e w'=>∃a k c,e=.returned (.agg #[.int .i64 (gA vars x).op,.int .i64 (gA vars x).a,.string (gA vars x).s,.string (gA vars x).m,.slice a k c])/\
  oS (bP w.heap.size) w' (gA vars x) [.int .i64 (gA vars x).op,.int .i64 (gA vars x).a,.string (gA vars x).s,.string (gA vars x).m,.slice a k c]/\Below w.heap.size w w'
theorem fO{N:Nat->Prop}{w:World}{op a:Int}{s m:ByteArray}(hs:s.size<=8000)(hm:m.size<=8000)(h0: -1<=a)(h1:a<=1099511627776):oS N w ⟨op,a,s,m,[]⟩ [.int .i64 op,.int .i64 a,.string s,.string m,.slice none 0 0]:=⟨_,rfl,hs,hm,aK.nil _ _ _ _,h0,h1⟩
theorem eF:noB.size<=8000:=vV
theorem varIdx_range(l:List ByteArray)(s:ByteArray): -1<=jS l s/\jS l s<=l.length:=by
 unfold jS
 cases h:l.findIdx? (fun x=>decide (x=s)) with
 |none=>simp only;omega
 |some k=>
  have:=(List.findIdx?_eq_some_iff_getElem.1 h).1;simp only;omega
theorem plain_3(cb:Nat)(vars:List ByteArray)(n:Int)(s m:ByteArray)(names:List ByteArray)(args:List Xp)(a1:Option Addr)(n1 c1:Nat)(a2:Option Addr)(c2:Nat)(w:World)(hs:s.size<=8000)(hm:m.size<=8000)(hl:args.length<=1000):
  cW cb vars (.mk 3 n s m names args) 3 n s m (.slice a1 n1 c1) (.slice a2 args.length c2) w:=by
 unfold cW;rw[show gA vars (.mk 3 n s m names args)=ins 4 0 from rfl];dsimp only[ins];go_enter Tryz.func158,Tryz.ntmps158;go_wp2_with fail;refine bodyPost_ret (v:=.agg #[.int .i64 4,.int .i64 0,.string noB,.string noB,.slice none 0 0]) wZ rfl ⟨none,0,0,rfl,fO eF eF vT vT,?_⟩;exact rD
theorem plain_4(cb:Nat)(vars:List ByteArray)(n:Int)(s m:ByteArray)(names:List ByteArray)(args:List Xp)(a1:Option Addr)(n1 c1:Nat)(a2:Option Addr)(c2:Nat)(w:World)(hs:s.size<=8000)(hm:m.size<=8000)(hl:args.length<=1000):
  cW cb vars (.mk 4 n s m names args) 4 n s m (.slice a1 n1 c1) (.slice a2 args.length c2) w:=by
 unfold cW;rw[show gA vars (.mk 4 n s m names args)=ins 5 0 from rfl];dsimp only[ins];go_enter Tryz.func158,Tryz.ntmps158;go_wp2_with fail;refine bodyPost_ret (v:=.agg #[.int .i64 5,.int .i64 0,.string noB,.string noB,.slice none 0 0]) wZ rfl ⟨none,0,0,rfl,fO eF eF vT vT,?_⟩;exact rD
theorem plain_5(cb:Nat)(vars:List ByteArray)(n:Int)(s m:ByteArray)(names:List ByteArray)(args:List Xp)(a1:Option Addr)(n1 c1:Nat)(a2:Option Addr)(c2:Nat)(w:World)(hs:s.size<=8000)(hm:m.size<=8000)(hl:args.length<=1000):
  cW cb vars (.mk 5 n s m names args) 5 n s m (.slice a1 n1 c1) (.slice a2 args.length c2) w:=by
 unfold cW;rw[show gA vars (.mk 5 n s m names args)=ins 6 0 from rfl];dsimp only[ins];go_enter Tryz.func158,Tryz.ntmps158;go_wp2_with fail;refine bodyPost_ret (v:=.agg #[.int .i64 6,.int .i64 0,.string noB,.string noB,.slice none 0 0]) wZ rfl ⟨none,0,0,rfl,fO eF eF vT vT,?_⟩;exact rD
theorem plain_6(cb:Nat)(vars:List ByteArray)(n:Int)(s m:ByteArray)(names:List ByteArray)(args:List Xp)(a1:Option Addr)(n1 c1:Nat)(a2:Option Addr)(c2:Nat)(w:World)(hs:s.size<=8000)(hm:m.size<=8000)(hl:args.length<=1000):
  cW cb vars (.mk 6 n s m names args) 6 n s m (.slice a1 n1 c1) (.slice a2 args.length c2) w:=by
 unfold cW;rw[show gA vars (.mk 6 n s m names args)=ins 7 0 from rfl];dsimp only[ins];go_enter Tryz.func158,Tryz.ntmps158;go_wp2_with fail;refine bodyPost_ret (v:=.agg #[.int .i64 7,.int .i64 0,.string noB,.string noB,.slice none 0 0]) wZ rfl ⟨none,0,0,rfl,fO eF eF vT vT,?_⟩;exact rD
theorem plain_7(cb:Nat)(vars:List ByteArray)(n:Int)(s m:ByteArray)(names:List ByteArray)(args:List Xp)(a1:Option Addr)(n1 c1:Nat)(a2:Option Addr)(c2:Nat)(w:World)(hs:s.size<=8000)(hm:m.size<=8000)(hl:args.length<=1000):
  cW cb vars (.mk 7 n s m names args) 7 n s m (.slice a1 n1 c1) (.slice a2 args.length c2) w:=by
 unfold cW;rw[show gA vars (.mk 7 n s m names args)=ins 8 0 from rfl];dsimp only[ins];go_enter Tryz.func158,Tryz.ntmps158;go_wp2_with fail;refine bodyPost_ret (v:=.agg #[.int .i64 8,.int .i64 0,.string noB,.string noB,.slice none 0 0]) wZ rfl ⟨none,0,0,rfl,fO eF eF vT vT,?_⟩;exact rD
theorem plain_10(cb:Nat)(vars:List ByteArray)(n:Int)(s m:ByteArray)(names:List ByteArray)(args:List Xp)(a1:Option Addr)(n1 c1:Nat)(a2:Option Addr)(c2:Nat)(w:World)(hs:s.size<=8000)(hm:m.size<=8000)(hl:args.length<=1000):
  cW cb vars (.mk 10 n s m names args) 10 n s m (.slice a1 n1 c1) (.slice a2 args.length c2) w:=by
 unfold cW;rw[show gA vars (.mk 10 n s m names args)=ins 9 0 from rfl];dsimp only[ins];go_enter Tryz.func158,Tryz.ntmps158;go_wp2_with fail;refine bodyPost_ret (v:=.agg #[.int .i64 9,.int .i64 0,.string noB,.string noB,.slice none 0 0]) wZ rfl ⟨none,0,0,rfl,fO eF eF vT vT,?_⟩;exact rD
theorem plain_14(cb:Nat)(vars:List ByteArray)(n:Int)(s m:ByteArray)(names:List ByteArray)(args:List Xp)(a1:Option Addr)(n1 c1:Nat)(a2:Option Addr)(c2:Nat)(w:World)(hs:s.size<=8000)(hm:m.size<=8000)(hl:args.length<=1000):
  cW cb vars (.mk 14 n s m names args) 14 n s m (.slice a1 n1 c1) (.slice a2 args.length c2) w:=by
 unfold cW;rw[show gA vars (.mk 14 n s m names args)=⟨13,0,s,noB,[]⟩ from rfl];dsimp only[ins];go_enter Tryz.func158,Tryz.ntmps158;go_wp2_with fail;refine bodyPost_ret (v:=.agg #[.int .i64 13,.int .i64 0,.string s,.string noB,.slice none 0 0]) wZ rfl ⟨none,0,0,rfl,fO hs eF vT vT,?_⟩;exact rD
theorem plain_15(cb:Nat)(vars:List ByteArray)(n:Int)(s m:ByteArray)(names:List ByteArray)(args:List Xp)(a1:Option Addr)(n1 c1:Nat)(a2:Option Addr)(c2:Nat)(w:World)(hs:s.size<=8000)(hm:m.size<=8000)(hl:args.length<=1000):
  cW cb vars (.mk 15 n s m names args) 15 n s m (.slice a1 n1 c1) (.slice a2 args.length c2) w:=by
 unfold cW;rw[show gA vars (.mk 15 n s m names args)=⟨14,args.length,s,m,[]⟩ from rfl];dsimp only[ins];go_enter Tryz.func158,Tryz.ntmps158;go_wp2_with fail;refine bodyPost_ret (v:=.agg #[.int .i64 14,.int .i64 (args.length:Int),.string s,.string m,.slice none 0 0]) wZ rfl ⟨none,0,0,rfl,fO hs hm vT vT,?_⟩;exact rD
theorem plain_16(cb:Nat)(vars:List ByteArray)(n:Int)(s m:ByteArray)(names:List ByteArray)(args:List Xp)(a1:Option Addr)(n1 c1:Nat)(a2:Option Addr)(c2:Nat)(w:World)(hs:s.size<=8000)(hm:m.size<=8000)(hl:args.length<=1000)(h0:0<=n)(h8:n<=8):
  cW cb vars (.mk 16 n s m names args) 16 n s m (.slice a1 n1 c1) (.slice a2 args.length c2) w:=by
 unfold cW;rw[show gA vars (.mk 16 n s m names args)=ins 15 n from rfl];dsimp only[ins];go_enter Tryz.func158,Tryz.ntmps158;go_wp2_with fail;refine bodyPost_ret (v:=.agg #[.int .i64 15,.int .i64 n,.string noB,.string noB,.slice none 0 0]) wZ rfl ⟨none,0,0,rfl,fO eF eF vT vT,?_⟩;exact rD
theorem plain_13(cb:Nat)(vars:List ByteArray)(n:Int)(s m:ByteArray)(names:List ByteArray)(args:List Xp)(vn:Value)(a2:Option Addr)(n2 c2:Nat)(w:World)(hl:names.length<=1000000)(hn:Strs w vn names):
  cW cb vars (.mk 13 n s m names args) 13 n s m vn (.slice a2 n2 c2) w:=by
 unfold cW;rw[show gA vars (.mk 13 n s m names args)=⟨12,0,noB,noB,names⟩ from rfl];dsimp only;have hsz:∀x,x∈names->x.size<=140737488355328:=fun x hx=>mP hn hx;obtain⟨a1,c1,rfl⟩:=cB hn;have hb:=aB (aA w (.cells #[.int .i64 13,.int .i64 n,.string s,.string m,.slice a1 names.length c1,.slice a2 n2 c2] 177)) (aA (w.alloc (.cells #[.int .i64 13,.int .i64 n,.string s,.string m,.slice a1 names.length c1,.slice a2 n2 c2] 177)) (.cells #[.int .i64 0,.int .i64 0,.string noB,.string noB,.slice none 0 0] 171));have HC:=zh (clones_any names _ _ hl (hn.later hb));have HR0:=zh (heap_alloc_new (w.alloc (.cells #[.int .i64 13,.int .i64 n,.string s,.string m,.slice a1 names.length c1,.slice a2 n2 c2] 177)) (.cells #[.int .i64 0,.int .i64 0,.string noB,.string noB,.slice none 0 0] 171));have hr0:(w.alloc (.cells #[.int .i64 13,.int .i64 n,.string s,.string m,.slice a1 names.length c1,.slice a2 n2 c2] 177)).heap.size=w.heap.size+1:=vZ;rw[hr0] at HR0;have hws:=hb.size;have HB:=zh hb;clear hn hb;go_enter Tryz.func158,Tryz.ntmps158;go_wp2_with(go_at_call 156;refine HC.out.mono ?_;rintro e w1 ⟨v1,rfl,hown,hb1⟩;have hrow:=zh (rowS_of_owns hown hb1.size hsz);obtain⟨a3,c3,e3,-⟩:=hrow.out;subst e3;have HB1:=zh hb1;obtain⟨⟨p0,p1,p2,p3,p4⟩,f0,f1,f2,f3,f4⟩:=bx5 (aD hb1 HR0.out);clear hown hb1);have hs5:=setI5_heap (aD HB1.out HR0.out) (.int .i64 12) (.int .i64 0) (.string noB) (.string noB) (.slice a3 names.length c3);have ho5:=setI5_off w1 (w.heap.size+1) (.int .i64 12) (.int .i64 0) (.string noB) (.string noB) (.slice a3 names.length c3);obtain⟨⟨k0,k1,k2,k3,k4⟩,-⟩:=bx5 hs5;unfold setI5 at k0 k1 k2 k3 k4 ho5;refine bodyPost_ret (v:=.agg #[.int .i64 12,.int .i64 0,.string noB,.string noB,.slice a3 names.length c3]) (by simp[results,Tryz.results158,go_sem,k0,k1,k2,k3,k4]) rfl ⟨a3,names.length,c3,rfl,⟨_,rfl,eF,eF,?_,(by decide:(-1:Int)<=0),(by decide:(0:Int)<=1099511627776)⟩,?_⟩
 ·refine hrow.out.moves aV (fun b hb _=>?_) vV;have hb:((w.alloc (.cells #[.int .i64 13,.int .i64 n,.string s,.string m,.slice a1 names.length c1,.slice a2 n2 c2] 177)).alloc (.cells #[.int .i64 0,.int .i64 0,.string noB,.string noB,.slice none 0 0] 171)).heap.size<=b:=hb;simp at hb;exact⟨by show w.heap.size<=b;omega,fun o u hu=>ho5.cell (fun e=>vT) hu⟩
 ·exact vB
theorem plain_18{B cb:Nat}{vars:List Fld}{vv v:Value}{c:Cmp}{css:List (List Value)}(n:Int)(s m:ByteArray)(names:List ByteArray)(args:List Xp)(a1:Option Addr)(n1 c1:Nat)(a2:Option Addr)(n2 c2:Nat)(w:World)(h:Cp B cb vars vv c css v w):
  cW cb (vars.map (·.1)) (.mk 18 n s m names args) 18 n s m (.slice a1 n1 c1) (.slice a2 n2 c2) w:=by
 unfold cW;rw[show gA (vars.map (·.1)) (.mk 18 n s m names args)=ins 17 (jS (vars.map (·.1)) s) from rfl];dsimp only[ins];have hb:=aB (aA w (.cells #[.int .i64 18,.int .i64 n,.string s,.string m,.slice a1 n1 c1,.slice a2 n2 c2] 177)) (aA (w.alloc (.cells #[.int .i64 18,.int .i64 n,.string s,.string m,.slice a1 n1 c1,.slice a2 n2 c2] 177)) (.cells #[.int .i64 0,.int .i64 0,.string noB,.string noB,.slice none 0 0] 171));have h2:=h.later hb;have HV:=zh (variable_any cb vars _ vv _ _ s _ h2.box h2.row);have hvi:=varIdx_range (vars.map (·.1)) s;rw[List.length_map] at hvi;have hnv:=h.nv;generalize jS (vars.map (·.1)) s=r at HV hvi ⊢;have HR0:=zh (heap_alloc_new (w.alloc (.cells #[.int .i64 18,.int .i64 n,.string s,.string m,.slice a1 n1 c1,.slice a2 n2 c2] 177)) (.cells #[.int .i64 0,.int .i64 0,.string noB,.string noB,.slice none 0 0] 171));have hr0:(w.alloc (.cells #[.int .i64 18,.int .i64 n,.string s,.string m,.slice a1 n1 c1,.slice a2 n2 c2] 177)).heap.size=w.heap.size+1:=vZ;rw[hr0] at HR0;have hws:=hb.size;have HB:=zh hb;clear h h2 hb;go_enter Tryz.func158,Tryz.ntmps158;go_wp2_with(go_at_call 154;refine HV.out.mono ?_;rintro e w1 ⟨rfl,hb1⟩;have HB1:=zh hb1;obtain⟨⟨p0,p1,p2,p3,p4⟩,f0,f1,f2,f3,f4⟩:=bx5 (aD hb1 HR0.out);clear hb1);have hs5:=setI5_heap (aD HB1.out HR0.out) (.int .i64 17) (.int .i64 r) (.string noB) (.string noB) (.slice none 0 0);have ho5:=setI5_off w1 (w.heap.size+1) (.int .i64 17) (.int .i64 r) (.string noB) (.string noB) (.slice none 0 0);obtain⟨⟨k0,k1,k2,k3,k4⟩,-⟩:=bx5 hs5;unfold setI5 at k0 k1 k2 k3 k4 ho5;refine bodyPost_ret (v:=.agg #[.int .i64 17,.int .i64 r,.string noB,.string noB,.slice none 0 0]) (by simp[results,Tryz.results158,go_sem,k0,k1,k2,k3,k4]) rfl ⟨none,0,0,rfl,fO eF eF vT vT,?_⟩;exact vB
end Go.Proofs.YtacgopankhpnbaaGreatDoor
namespace Go.Proofs.YtacgopankhpnbaaGreatDoor
theorem tZ{p:Prop}(h:p:=by
 unfold iF;simp only[Cmp.fix_len];have h1:=hy (c.put (ins 11 0));rw[Cmp.put_len] at h1;have h2:=hn (((yes (c.put (ins 11 0))).put (ins 10 0)).fix c.code.length);rw[Cmp.fix_len,Cmp.put_len] at h2
 omega):p:=h
def dV:Nat->Nat
 |0=>0
 |d+1=>8*dV d+1
theorem iT{d:Nat}{op n:Int}{s m:ByteArray}{names:List ByteArray}{args:List Xp}(h:aZ (d+1) (.mk op n s m names args)=true):
  (0<=op/\op<19)/\args.length<=8/\(op=8\/op=9\/op=12->args.length=2)/\(op=11->args.length=3)/\(∀x∈args,aZ d x=true)/\eW (.mk op n s m names args)=true:=by
 rw[aZ] at h;simp only[Bool.and_eq_true,decide_eq_true_eq,Bool.or_eq_true,List.all_eq_true] at h;obtain⟨⟨⟨⟨⟨⟨⟨⟨h0,h1⟩,h2⟩,-⟩,-⟩,-⟩,-⟩,h3⟩,h4⟩:=h;have e:=cleanX_eq op n s m names args h0 h1;rw[e] at h2;refine⟨⟨h0,h1⟩,?_,?_,?_,h4,h3⟩
 ·have hc:op=0\/op=1\/op=2\/op=3\/op=4\/op=5\/op=6\/op=7\/op=8\/op=9\/op=10\/op=11\/op=12\/op=13\/op=14\/op=15\/op=16\/op=17\/op=18:=vT;rcases hc with rfl|rfl|rfl|rfl|rfl|rfl|rfl|rfl|rfl|rfl|rfl|rfl|rfl|rfl|rfl|rfl|rfl|rfl|rfl<;>simp[cleanC] at h2<;>simp[eW] at h3<;>omega
 ·rintro(rfl|rfl|rfl)<;>simp[cleanC] at h2<;>omega
 ·rintro rfl;simp[cleanC] at h2;omega
theorem Cmp.put_len(c:Cmp)(i:Ins):(c.put i).code.length=c.code.length+1:=by simp[Cmp.put]
theorem Cmp.fix_len(c:Cmp)(k:Nat):(c.fix k).code.length=c.code.length:=by simp[Cmp.fix]
theorem choice_len{yes no:Cmp->Cmp}{a b:Nat}(hy:∀c,(yes c).code.length<=c.code.length+a)(hn:∀c,(no c).code.length<=c.code.length+b)(c:Cmp):(iF yes no c).code.length<=c.code.length+(a+b+2):=by
 exact tZ
theorem fold_len{f:Cmp->Xp->Cmp}{a:Nat}:∀(args:List Xp)(c:Cmp),(∀x∈args,∀c,(f c x).code.length<=c.code.length+a)->(args.foldl f c).code.length<=c.code.length+args.length*a
 |[],c,_=>vZ
 |x::args,c,h=>by
  have h1:=h x vZ c;have h2:=fold_len args (f c x) (fun y hy=>h y (by simp[hy]));rw[List.foldl_cons,List.length_cons,Nat.succ_mul];omega
theorem lenB_pos:∀{d:Nat}{x:Xp},aZ d x=true->1<=dV d
 |0,x,h=>by simp[aZ] at h
 |d+1,_,_=>by simp[dV]
theorem fV(vars:List ByteArray)(d:Nat)(names:List ByteArray)(op n:Int)(s m:ByteArray)(ns:List ByteArray)(args:List Xp)(c:Cmp):bH vars (d+1) names (.mk op n s m ns args) c=
  (if op=0 then c.put (ins 0 n)
  else if op=1 then c.put (ins 1 n)
  else if op=2 then c.put (ins 2 (eB names s))
  else if op=17 then c.put (ins 16 (jS vars s))
  else if op=8 then match args with
   |[x,y]=>iF (bH vars d names y) (fun c=>c.put (ins 1 0)) (bH vars d names x c)
   |_=>c
  else if op=9 then match args with
   |[x,y]=>iF (fun c=>c.put (ins 1 1)) (bH vars d names y) (bH vars d names x c)
   |_=>c
  else if op=11 then match args with
   |[x,y,z]=>iF (bH vars d names y) (bH vars d names z) (bH vars d names x c)
   |_=>c
  else if op=12 then match args with
   |[x,y]=>
    let c1:=(bH vars d names x c).put (ins 3 names.length)
    bH vars d (names++[s]) y ⟨c1.code,max c1.locals (names.length+1)⟩
   |_=>c
  else(args.foldl (fun c x=>bH vars d names x c) c).put (gA vars (.mk op n s m ns args))):=rfl
theorem hZ(vars:List ByteArray):∀(d:Nat)(names:List ByteArray)(x:Xp)(c:Cmp),aZ d x=true->(bH vars d names x c).code.length<=c.code.length+dV d
 |0,_,_,c,_=>by simp[bH,dV]
 |d+1,names,.mk op n s m ns args,c,h=>by
  obtain⟨⟨h0,h1⟩,h8,h2,h3,ha,-⟩:=iT h;have ih:=fun names x(hx:x∈args)c=>hZ vars d names x c (ha x hx);rw[fV,dV];split
  ·rw[Cmp.put_len];omega
  split
  ·rw[Cmp.put_len];omega
  split
  ·rw[Cmp.put_len];omega
  split
  ·rw[Cmp.put_len];omega
  split
  ·rename_i e8;have hl:=h2 (.inl e8)
   match args,hl,ih,ha with
   |[x,y],_,ih,ha=>
    have hp:=lenB_pos (ha x vZ);have h1:=ih names x vZ c;have h2:=choice_len (a:=dV d) (b:=1) (fun c=>ih names y vZ c) (fun c=>Nat.le_of_eq (Cmp.put_len c (ins 1 0))) (bH vars d names x c);(try dsimp only);omega
  split
  ·rename_i e8;have hl:=h2 (.inr (.inl e8))
   match args,hl,ih,ha with
   |[x,y],_,ih,ha=>
    have hp:=lenB_pos (ha x vZ);have h1:=ih names x vZ c;have h2:=choice_len (a:=1) (b:=dV d) (fun c=>Nat.le_of_eq (Cmp.put_len c (ins 1 1))) (fun c=>ih names y vZ c) (bH vars d names x c);(try dsimp only);omega
  split
  ·rename_i e8;have hl:=h3 e8
   match args,hl,ih,ha with
   |[x,y,z],_,ih,ha=>
    have hp:=lenB_pos (ha x vZ);have h1:=ih names x vZ c;have h2:=choice_len (a:=dV d) (b:=dV d) (fun c=>ih names y vZ c) (fun c=>ih names z vZ c) (bH vars d names x c);(try dsimp only);omega
  split
  ·rename_i e8;have hl:=h2 (.inr (.inr e8))
   match args,hl,ih,ha with
   |[x,y],_,ih,ha=>
    have hp:=lenB_pos (ha x vZ);have h1:=ih names x vZ c;have h2:=ih (names++[s]) y vZ ⟨((bH vars d names x c).put (ins 3 names.length)).code,max ((bH vars d names x c).put (ins 3 names.length)).locals (names.length+1)⟩;dsimp only at h2 ⊢;rw[Cmp.put_len] at h2;omega
  ·rw[Cmp.put_len];have h1:=fold_len (f:=fun c x=>bH vars d names x c) (a:=dV d) args c (fun x hx c=>ih names x hx c);have h2:args.length*dV d<=8*dV d:=Nat.mul_le_mul_right _ h8;omega
theorem choice_ge{yes no:Cmp->Cmp}(hy:∀c,c.code.length<=(yes c).code.length)(hn:∀c,c.code.length<=(no c).code.length)(c:Cmp):c.code.length<=(iF yes no c).code.length:=by
 exact tZ
theorem fold_ge{f:Cmp->Xp->Cmp}(h:∀c x,c.code.length<=(f c x).code.length):∀(args:List Xp)(c:Cmp),c.code.length<=(args.foldl f c).code.length
 |[],c=>Nat.le_refl _
 |x::args,c=>Nat.le_trans (h c x) (fold_ge h args (f c x))
theorem put_ge(c:Cmp)(i:Ins):c.code.length<=(c.put i).code.length:=by rw[Cmp.put_len];omega
theorem compX_ge(vars:List ByteArray):∀(d:Nat)(names:List ByteArray)(x:Xp)(c:Cmp),c.code.length<=(bH vars d names x c).code.length
 |0,_,_,_=>by simp[bH]
 |d+1,names,.mk op n s m ns args,c=>by
  have ih:=fun names x c=>compX_ge vars d names x c;rw[fV];split
  ·exact put_ge _ _
  split
  ·exact put_ge _ _
  split
  ·exact put_ge _ _
  split
  ·exact put_ge _ _
  split
  ·split
   ·exact Nat.le_trans (ih _ _ _) (choice_ge (fun c=>ih _ _ c) (fun c=>put_ge c _) _)
   ·exact Nat.le_refl _
  split
  ·split
   ·exact Nat.le_trans (ih _ _ _) (choice_ge (fun c=>put_ge c _) (fun c=>ih _ _ c) _)
   ·exact Nat.le_refl _
  split
  ·split
   ·exact Nat.le_trans (ih _ _ _) (choice_ge (fun c=>ih _ _ c) (fun c=>ih _ _ c) _)
   ·exact Nat.le_refl _
  split
  ·split
   ·rename_i x y;(try dsimp only);have h1:=ih names x c;have h2:=put_ge (bH vars d names x c) (ins 3 names.length);have h3:=ih (names++[s]) y ⟨((bH vars d names x c).put (ins 3 names.length)).code,max ((bH vars d names x c).put (ins 3 names.length)).locals (names.length+1)⟩;dsimp only at h3;omega
   ·exact Nat.le_refl _
  ·exact Nat.le_trans (fold_ge (fun c x=>ih names x c) args c) (put_ge _ _)
theorem lenB_12:dV 12=9817068105:=vV
end Go.Proofs.YtacgopankhpnbaaGreatDoor
namespace Go.Proofs.YtacgopankhpnbaaGreatDoor
set_option maxHeartbeats 8000000
set_option maxRecDepth 100000
open Go.RowKit
def kV(B cb:Nat)(vars:List Fld)(vv v:Value)(w:World)(c':Cmp)(e:Ending)(w':World):Prop:=∃css' v',e=.returned (.tuple #[])/\Cp B cb vars vv c' css' v' w'/\Ext cb v w v' w'
def ExpAt(d:Nat):Prop:=∀(x:Xp)(B cb:Nat)(vars:List Fld)(vv v:Value)(c:Cmp)(css:List (List Value))(names:List ByteArray)(vns:Value)(op n:Int)(s m:ByteArray)(vn va:Value)(w:World),
 aZ d x=true->Cp B cb vars vv c css v w->c.code.length+dV d<=100000000000->names.length+d<=1000->aK 1 bM (gX cb v) w vns names->cE (gX cb v) w x [.int .i64 op,.int .i64 n,.string s,.string m,vn,va]->
 Calls Tryz.prog 114 #[.pointer (some ⟨cb,0,none⟩),.agg #[.int .i64 op,.int .i64 n,.string s,.string m,vn,va],vns] w (kV B cb vars vv v w (bH (vars.map (·.1)) d names x c))
theorem modify_set{α:Type}(f:α->α):∀(l:List α)(i:Nat)(x:α),l[i]? =some x->l.modify i f=l.set i (f x)
 |[],i,x,h=>yL
 |y::l,0,x,h=>by simp at h;subst h;simp
 |y::l,i+1,x,h=>by
  simp only[List.modify_succ_cons,List.set_cons_succ];rw[modify_set f l i x xL]
theorem Gro.cellAt{α:Type}{k:Nat}{T:TypeId}{enc:(Nat->Prop)->World->α->List Value->Prop}{B:Nat}{l:List α}{css:List (List Value)}{w:World}{g cap n i j:Nat}(h:Gro k T enc B l css (.slice (some ⟨g,0,none⟩) n cap) w)(hi:i<l.length)(hj:j<k):
  ∃u,w.cell? ⟨g,i*k+j,none⟩=some u/\w.frozen? ⟨g,i*k+j,none⟩=false:=by
 rcases h.own.2 with⟨h2,-⟩|⟨g',cap',cur,hv,hg,hgg,r1,r2,r3,r4⟩
 ·cases h2
 ·cases hv
  have hlt:i*k+j<cur.size:=by
   have h1:(i+1)*k<=cap*k:=Nat.mul_le_mul_right _ vT;rw[Nat.succ_mul] at h1;omega
  have hb:=bx hgg (i*k+j) (u:=cur[i*k+j]) (Array.getElem?_eq_getElem hlt);exact⟨_,hb.1,hb.2⟩
theorem Cp.fixed{B cb:Nat}{vars:List Fld}{vv:Value}{c:Cmp}{css:List (List Value)}{w:World}{g cap n k:Nat}(h:Cp B cb vars vv c css (.slice (some ⟨g,0,none⟩) n cap) w)(hk:k<c.code.length)(hlen:c.code.length<=100000000000):
  ∃css',Cp B cb vars vv (c.fix k) css' (.slice (some ⟨g,0,none⟩) n cap) (w.setCell ⟨g,k*5+1,none⟩ (.int .i64 (c.code.length:Int)))/\Ext cb (.slice (some ⟨g,0,none⟩) n cap) w (.slice (some ⟨g,0,none⟩) n cap) (w.setCell ⟨g,k*5+1,none⟩ (.int .i64 (c.code.length:Int))):=by
 have hx:=List.getElem?_eq_getElem hk;have hkc:k<css.length:=by rw[h.gro.len];exact hk
 have hgB:B<=g:=(h.own g rfl).1;have hcb:=h.hcb;have he:Ext cb (.slice (some ⟨g,0,none⟩) n cap) w (.slice (some ⟨g,0,none⟩) n cap) (w.setCell ⟨g,k*5+1,none⟩ (.int .i64 (c.code.length:Int))):=⟨Off.setCell (S:=inC cb _) w (.inr rfl),fun b hb=>.inl hb⟩
 have hset:=h.gro.set1 (j:=1) (y:={c.code[k] with a:=(c.code.length:Int)}) (u:=.int .i64 (c.code.length:Int)) hU hx (List.getElem?_eq_getElem hkc) vV (fun N W hh=>by
  obtain⟨vn,h1,h2,h3,h4,-⟩:=hh
  exact⟨vn,by rw[h1];rfl,h2,h3,h4,by show(-1:Int)<=(c.code.length:Int);omega,by show(c.code.length:Int)<=1099511627776;omega⟩)
 have e:c.code.set k {c.code[k] with a:=(c.code.length:Int)}=(c.fix k).code:=by
  show _=c.code.modify k _;rw[modify_set _ _ _ _ hx]
 rw[e] at hset;exact⟨_,h.put (c':=c.fix k) he ((Off.setCell (S:=fun b=>b=g) w rfl).heap vT h.box) hset,he⟩
theorem gQ{α:Type}{k:Nat}{enc:(Nat->Prop)->World->α->List Value->Prop}(he:eU enc)(hk:0<k){cb:Nat}{v v' x:Value}{w w':World}{l:List α}(h:aK k enc (gX cb v) w x l)(hx:Ext cb v w v' w'):aK k enc (gX cb v') w' x l:=h.moves he hx.moves hk
theorem gO{cb:Nat}{v v':Value}{w w':World}{x:Xp}{cs:List Value}(h:cE (gX cb v) w x cs)(hx:Ext cb v w v' w'):cE (gX cb v') w' x cs:=aG _ _ _ _ _ _ hx.moves h
abbrev truthX(n:Int):Xp:=.mk 1 n noB noB [] []
theorem encX_truth(N:Nat->Prop)(w:World)(n:Int):cE N w (truthX n) [.int .i64 1,.int .i64 n,.string noB,.string noB,.slice none 0 0,.slice none 0 0]:=by
 rw[bF];exact⟨_,_,rfl,vV,vV,aK.nil _ _ _ _,aK.nil _ _ _ _⟩
theorem right_truth{d:Nat}{n:Int}(h:n=0\/n=1):aZ (d+1) (truthX n)=true:=by
 rcases h with rfl|rfl<;>simp[aZ,cleanX,eW]
theorem Ext.blk{cb b:Nat}{v v':Value}{w w':World}{o:Obj}(h:Ext cb v w v' w')(hb:gX cb v b)(ho:w.heap[b]? =some o):w'.heap[b]? =some o/\gX cb v' b:=by
 have hlt:=(Array.getElem?_eq_some_iff.1 ho).1;exact⟨h.off.heap (fun e=>e.elim hb.1 hb.2) ho,hb.1,fun e=>(h.own b e).elim hb.2 (fun h1=>vT)⟩
theorem Cp.form1{B cb:Nat}{vars:List Fld}{vv v:Value}{c:Cmp}{css:List (List Value)}{w:World}(h:Cp B cb vars vv c css v w)(hp:0<c.code.length):∃g cp,v=.slice (some ⟨g,0,none⟩) c.code.length cp:=by
 rcases h.gro.val with⟨rfl,h0⟩|⟨g,cap,rfl,-⟩
 ·rw[h0] at hp;simp at hp
 ·exact⟨_,_,rfl⟩
theorem Cp.new{B cb b:Nat}{vars:List Fld}{vv v:Value}{c:Cmp}{css:List (List Value)}{w:World}(h:Cp B cb vars vv c css v w)(hb:w.heap.size<=b):gX cb v b:=⟨by have:=h.lt;omega,fun e=>by have:=(h.own b e).2;omega⟩
theorem jX(N:Nat->Prop)(w:World)(op a:Int)(h0: -1<=a)(h1:a<=1099511627776):oS N w (ins op a) [.int .i64 op,.int .i64 a,.string noB,.string noB,.slice none 0 0]:=fO eF eF h0 h1
theorem choice_any{d:Nat}(HX:ExpAt d)(y z:Xp){B cb:Nat}{vars:List Fld}{vv v:Value}{c:Cmp}{css:List (List Value)}{names:List ByteArray}{vns:Value}{opy ny:Int}{sy my:ByteArray}{vny vay:Value}{opz nz:Int}{sz mz:ByteArray}{vnz vaz:Value}{w:World}
  (ry:aZ d y=true) (rz:aZ d z=true) (h:Cp B cb vars vv c css v w) (hlen:c.code.length+(dV d+dV d+2)<=100000000000) (hnm:names.length+d<=1000) (hns:aK 1 bM (gX cb v) w vns names)
  (hy:cE (gX cb v) w y [.int .i64 opy,.int .i64 ny,.string sy,.string my,vny,vay]) (hz:cE (gX cb v) w z [.int .i64 opz,.int .i64 nz,.string sz,.string mz,vnz,vaz]):
  Calls Tryz.prog 155 #[.pointer (some ⟨cb,0,none⟩),.agg #[.int .i64 opy,.int .i64 ny,.string sy,.string my,vny,vay],.agg #[.int .i64 opz,.int .i64 nz,.string sz,.string mz,vnz,vaz],vns] w
   (kV B cb vars vv v w (iF (bH (vars.map (·.1)) d names y) (bH (vars.map (·.1)) d names z) c)):=by
 have HXh:=zh HX;obtain⟨⟨ay1,ny1,cy1,rfl⟩,ay2,ny2,cy2,rfl⟩:=lQ hy;obtain⟨⟨az1,nz1,cz1,rfl⟩,az2,nz2,cz2,rfl⟩:=lQ hz;have hb1:=aB (aA w (.cells #[.int .i64 opy,.int .i64 ny,.string sy,.string my,.slice ay1 ny1 cy1,.slice ay2 ny2 cy2] 177)) (aA (w.alloc (.cells #[.int .i64 opy,.int .i64 ny,.string sy,.string my,.slice ay1 ny1 cy1,.slice ay2 ny2 cy2] 177)) (.cells #[.int .i64 opz,.int .i64 nz,.string sz,.string mz,.slice az1 nz1 cz1,.slice az2 nz2 cz2] 177));have hx0:=Ext.below cb v hb1;have HX0:=zh hx0;have HC1:=zh (h.later hb1);have HNS:=zh (gQ aV vV hns hx0);have HYE:=zh (gO hy hx0);have HZE:=zh (gO hz hx0);have HYB:Hid (((w.alloc (.cells #[.int .i64 opy,.int .i64 ny,.string sy,.string my,.slice ay1 ny1 cy1,.slice ay2 ny2 cy2] 177)).alloc (.cells #[.int .i64 opz,.int .i64 nz,.string sz,.string mz,.slice az1 nz1 cz1,.slice az2 nz2 cz2] 177)).heap[w.heap.size]? =some (.cells #[.int .i64 opy,.int .i64 ny,.string sy,.string my,.slice ay1 ny1 cy1,.slice ay2 ny2 cy2] 177)/\gX cb v w.heap.size):=zh ⟨aD (aA _ _) (heap_alloc_new w (.cells #[.int .i64 opy,.int .i64 ny,.string sy,.string my,.slice ay1 ny1 cy1,.slice ay2 ny2 cy2] 177)),h.new (Nat.le_refl _)⟩;have HZB:Hid (((w.alloc (.cells #[.int .i64 opy,.int .i64 ny,.string sy,.string my,.slice ay1 ny1 cy1,.slice ay2 ny2 cy2] 177)).alloc (.cells #[.int .i64 opz,.int .i64 nz,.string sz,.string mz,.slice az1 nz1 cz1,.slice az2 nz2 cz2] 177)).heap[w.heap.size+1]? =some (.cells #[.int .i64 opz,.int .i64 nz,.string sz,.string mz,.slice az1 nz1 cz1,.slice az2 nz2 cz2] 177)/\gX cb v (w.heap.size+1)):=zh ⟨by simpa using heap_alloc_new (w.alloc (.cells #[.int .i64 opy,.int .i64 ny,.string sy,.string my,.slice ay1 ny1 cy1,.slice ay2 ny2 cy2] 177)) (.cells #[.int .i64 opz,.int .i64 nz,.string sz,.string mz,.slice az1 nz1 cz1,.slice az2 nz2 cz2] 177),h.new vT⟩;obtain⟨ans,cns,rfl,-⟩:=hns.at;generalize hCy:bH (vars.map (·.1)) d names y=CY;generalize hCz:bH (vars.map (·.1)) d names z=CZ;have HLY:Hid (∀c,(CY c).code.length<=c.code.length+dV d):=zh (fun c=>by rw[<-hCy];exact hZ _ d names y c ry);have HLZ:Hid (∀c,(CZ c).code.length<=c.code.length+dV d):=zh (fun c=>by rw[<-hCz];exact hZ _ d names z c rz);have HCY:=zh hCy;have HCZ:=zh hCz;have HRY:=zh ry;have HRZ:=zh rz;have HP1:=zh (nJ (ins 11 0) (.slice none 0 0) HC1.out vT (jX _ _ 11 0 vV vV));clear hCy hCz ry rz hy hz hns h hb1 hx0 HX;go_enter Tryz.func155,Tryz.ntmps155;go_wp2_with(go_at_call 115;refine HP1.out.mono ?_;rintro e w3 ⟨css3,v3,rfl,hc3,hx3⟩;have HYB3:=zh (hx3.blk HYB.out.2 HYB.out.1);obtain⟨⟨y0,y1,y2,y3,y4,y5⟩,-⟩:=bx6 HYB3.out.1);have HC3:=zh hc3;have HX3:=zh hx3;have HZB3:=zh (hx3.blk HZB.out.2 HZB.out.1);have hl3:(c.put (ins 11 0)).code.length=c.code.length+1:=Cmp.put_len _ _;have HQ3:=zh (HXh.out y B cb vars vv v3 (c.put (ins 11 0)) css3 names _ opy ny sy my _ _ w3 HRY.out HC3.out vT hnm (gQ aV vV HNS.out HX3.out) (gO HYE.out HX3.out));clear hc3 hx3 HP1 HYB;rw[HCY.out] at HQ3;go_wp2_with(go_at_call 114;refine HQ3.out.mono ?_;rintro e w4 ⟨css4,v4,rfl,hc4,hx4⟩);have HC4:=zh hc4;have HX4:=zh (HX3.out.trans hx4);have HZB4:=zh (hx4.blk HZB3.out.2 HZB3.out.1);have hl4:=HLY.out (c.put (ins 11 0));have HP4:=zh (nJ (ins 10 0) (.slice none 0 0) HC4.out vT (jX _ _ 10 0 vV vV));clear hc4 hx4 HQ3 y0 y1 y2 y3 y4 y5 HYB3 HZB3;go_wp2_with(go_at_call 115;refine HP4.out.mono ?_;rintro e w5 ⟨css5,v5,rfl,hc5,hx5⟩);have hl5:((CY (c.put (ins 11 0))).put (ins 10 0)).code.length=(CY (c.put (ins 11 0))).code.length+1:=Cmp.put_len _ _;obtain⟨g5,cp5,rfl⟩:=hc5.form1 vT;have HX5:=zh (HX4.out.trans hx5);have HZB5:=zh (hx5.blk HZB4.out.2 HZB4.out.1)
 have hge4:c.code.length<(CY (c.put (ins 11 0))).code.length:=by
  rw[<-HCY.out];have:=compX_ge (vars.map (·.1)) d names y (c.put (ins 11 0));omega
 obtain⟨css6,hc6,hx6⟩:=hc5.fixed (k:=c.code.length) vT vT;obtain⟨u5,hu5,hf5⟩:=hc5.gro.cellAt (i:=c.code.length) (j:=1) vT vV;obtain⟨⟨b0,b1,b2⟩,f0,f1,f2⟩:=bx3 hc5.box;have hne5:g5≠cb:=fun e=>by have h1:=(hc5.own g5 rfl).1;have h2:=hc5.hcb;omega
 have HC6:=zh hc6;have HX6:=zh (HX5.out.trans hx6);have HZB6:=zh (hx6.blk HZB5.out.2 HZB5.out.1);generalize hn5:((CY (c.put (ins 11 0))).put (ins 10 0)).code.length=n5 at *;have HN5:=zh hn5;have hkn:(c.code.length:Int)<(n5:Int):=vT;clear hc5 hx5 hc6 hx6 HP4 HZB4 HZB5 hn5;generalize hkc:c.code.length=kc at *;have HKC:=zh hkc;clear hkc;have HLn:Hid (n5+dV d<=100000000000):=zh vT;have HL5:=zh hl5;have HGE:=zh hge4;have hkn2:¬(n5:Int)<=(kc:Int):=vT;clear hl5 hl4 hl3 hge4 hlen;go_wp2_with fail;refine wp_region_held_drew (S:=fun W=>W.cell? ⟨cb,1,none⟩=some (.slice (some ⟨g5,0,none⟩) n5 cp5)) vU b1 fun hS=>?_;refine zt 0 (.pointer (some ⟨cb,0,none⟩)) rfl (fun W hW=>vW) hS ?_;try simp only[zn]
 refine zt 1 (.pointer (some ⟨cb,0,none⟩)) rfl (fun W hW=>vW) hS ?_;try simp only[zn]
 refine zt 2 (.pointer (some ⟨cb,1,none⟩)) rfl (fun W hW=>vW) hS ?_;try simp only[zn]
 refine zt 3 (.slice (some ⟨g5,0,none⟩) n5 cp5) rfl (fun W hW=>BF) hS ?_;try simp only[zn]
 refine zt 4 (.int .i64 (kc:Int)) rfl (fun W hW=>vW) hS ?_;try simp only[zn]
 refine zt 5 (.pointer (some ⟨cb,0,none⟩)) rfl (fun W hW=>vW) hS ?_;try simp only[zn]
 refine zt 6 (.pointer (some ⟨cb,0,none⟩)) rfl (fun W hW=>vW) hS ?_;try simp only[zn]
 refine zt 7 (.pointer (some ⟨cb,1,none⟩)) rfl (fun W hW=>vW) hS ?_;try simp only[zn]
 refine zt 8 (.slice (some ⟨g5,0,none⟩) n5 cp5) rfl (fun W hW=>BF) hS ?_;try simp only[zn]
 refine zt 9 (.int .i64 (n5:Int)) rfl (fun W hW=>vW) hS ?_;try simp only[zn]
 refine zt 10 (.pointer (some ⟨g5,kc*5,none⟩)) rfl (fun W hW=>vW) hS ?_;try simp only[zn]
 refine zt 11 (.pointer (some ⟨g5,kc*5+1,none⟩)) rfl (fun W hW=>vW) hS ?_;try simp only[zn]
 have hu:w5.drew.cell? ⟨g5,kc*5+1,none⟩=some _:=hu5;have hf:w5.drew.frozen? ⟨g5,kc*5+1,none⟩=false:=hf5;refine zr 12 rfl (fun K hK=>?_);try simp only[z1,z2,z3]
 go_simp;refine hK.out _ _ (cell_set (fun e=>hne5 e.symm) b1) (fun hS=>?_);clear hK K;try simp only[zn]
 refine wpAnyH_done vU ?_ _;clear hS hu hf;clear b0 b1 b2 f0 f1 f2 hu5 hf5;generalize w5.setCell ⟨g5,kc*5+1,none⟩ (.int .i64 (n5:Int))=w6 at *;have hc6d:=HC6.out.later (aF w6);have hx6d:=HX6.out.trans (Ext.below cb _ (aF w6));have hzb6d:w6.drew.heap[w.heap.size+1]? =some (.cells #[.int .i64 opz,.int .i64 nz,.string sz,.string mz,.slice az1 nz1 cz1,.slice az2 nz2 cz2] 177)/\gX cb (.slice (some ⟨g5,0,none⟩) n5 cp5) (w.heap.size+1):=HZB6.out;clear HC6 HX6 HZB6;have HC6:=zh hc6d;have HX6:=zh hx6d;have HZB6:=zh hzb6d;clear hc6d hx6d hzb6d;generalize w6.drew=w6 at *;have HQ6:=zh (HXh.out z B cb vars vv _ (((CY (c.put (ins 11 0))).put (ins 10 0)).fix kc) css6 names _ opz nz sz mz _ _ w6 HRZ.out (by have h:=HC6.out;exact h) (by have:=HN5.out;have h2:=HLn.out;rw[Cmp.fix_len];omega) hnm (gQ aV vV HNS.out HX6.out) (gO HZE.out HX6.out));rw[HCZ.out] at HQ6;obtain⟨⟨z0,z1,z2,z3,z4,z5⟩,-⟩:=bx6 HZB6.out.1;go_wp2_with(go_at_call 114;refine HQ6.out.mono ?_;rintro e w7 ⟨css7,v7,rfl,hc7,hx7⟩);have hl5:=HL5.out;have hlen:=HLn.out;have hge4:=HGE.out;have hl7:=HLZ.out (((CY (c.put (ins 11 0))).put (ins 10 0)).fix kc);have hfl:(((CY (c.put (ins 11 0))).put (ins 10 0)).fix kc).code.length=n5:=by rw[Cmp.fix_len];exact HN5.out
 have hge7:n5<=(CZ (((CY (c.put (ins 11 0))).put (ins 10 0)).fix kc)).code.length:=by
  rw[<-HCZ.out];have:=compX_ge (vars.map (·.1)) d names z (((CY (c.put (ins 11 0))).put (ins 10 0)).fix kc);omega
 obtain⟨g7,cp7,rfl⟩:=hc7.form1 vT;have HX7:=zh (HX6.out.trans hx7);obtain⟨css8,hc8,hx8⟩:=hc7.fixed (k:=(CY (c.put (ins 11 0))).code.length) vT vT;obtain⟨u7,hu7,hf7⟩:=hc7.gro.cellAt (i:=(CY (c.put (ins 11 0))).code.length) (j:=1) vT vV;obtain⟨⟨b0,b1,b2⟩,f0,f1,f2⟩:=bx3 hc7.box;have hne7:g7≠cb:=fun e=>by have h1:=(hc7.own g7 rfl).1;have h2:=hc7.hcb;omega
 have HC8:=zh hc8;have HX8:=zh (HX7.out.trans hx8);have HFin:Hid (iF CY CZ c=(CZ (((CY (c.put (ins 11 0))).put (ins 10 0)).fix kc)).fix (CY (c.put (ins 11 0))).code.length):=zh (by unfold iF;dsimp only;rw[HKC.out]);rw[HFin.out];generalize hn7:(CZ (((CY (c.put (ins 11 0))).put (ins 10 0)).fix kc)).code.length=n7 at *;have HN7:=zh hn7;generalize hk7:(CY (c.put (ins 11 0))).code.length=k7 at *;have HK7:=zh hk7;have hkn7:(k7:Int)<(n7:Int):=vT;have hkn8:¬(n7:Int)<=(k7:Int):=vT;clear hl5 hlen hge4 hl7 hfl hge7;clear hc7 hx7 hc8 hx8 hn7 hk7 z0 z1 z2 z3 z4 z5 HQ6;go_wp2_with fail;refine wp_region_held_drew (S:=fun W=>W.cell? ⟨cb,1,none⟩=some (.slice (some ⟨g7,0,none⟩) n7 cp7)) vU b1 fun hS=>?_;refine zt 0 (.pointer (some ⟨cb,0,none⟩)) rfl (fun W hW=>vW) hS ?_;try simp only[zn]
 refine zt 1 (.pointer (some ⟨cb,0,none⟩)) rfl (fun W hW=>vW) hS ?_;try simp only[zn]
 refine zt 2 (.pointer (some ⟨cb,1,none⟩)) rfl (fun W hW=>vW) hS ?_;try simp only[zn]
 refine zt 3 (.slice (some ⟨g7,0,none⟩) n7 cp7) rfl (fun W hW=>BF) hS ?_;try simp only[zn]
 refine zt 4 (.int .i64 (k7:Int)) rfl (fun W hW=>vW) hS ?_;try simp only[zn]
 refine zt 5 (.pointer (some ⟨cb,0,none⟩)) rfl (fun W hW=>vW) hS ?_;try simp only[zn]
 refine zt 6 (.pointer (some ⟨cb,0,none⟩)) rfl (fun W hW=>vW) hS ?_;try simp only[zn]
 refine zt 7 (.pointer (some ⟨cb,1,none⟩)) rfl (fun W hW=>vW) hS ?_;try simp only[zn]
 refine zt 8 (.slice (some ⟨g7,0,none⟩) n7 cp7) rfl (fun W hW=>BF) hS ?_;try simp only[zn]
 refine zt 9 (.int .i64 (n7:Int)) rfl (fun W hW=>vW) hS ?_;try simp only[zn]
 refine zt 10 (.pointer (some ⟨g7,k7*5,none⟩)) rfl (fun W hW=>vW) hS ?_;try simp only[zn]
 refine zt 11 (.pointer (some ⟨g7,k7*5+1,none⟩)) rfl (fun W hW=>vW) hS ?_;try simp only[zn]
 have hu:w7.drew.cell? ⟨g7,k7*5+1,none⟩=some _:=hu7;have hf:w7.drew.frozen? ⟨g7,k7*5+1,none⟩=false:=hf7;refine zr 12 rfl (fun K hK=>?_);try simp only[z1,z2,z3]
 go_simp;refine hK.out _ _ (cell_set (fun e=>hne7 e.symm) b1) (fun hS=>?_);clear hK K;try simp only[zn]
 refine wpAnyH_done vU ?_ _;clear hS hu hf;go_wp2_with fail;refine bodyPost_ret (v:=.tuple #[]) (by simp[results,Tryz.results155,go_sem]) rfl ?_;exact⟨css8,_,rfl,HC8.out.later (aF _),(HX0.out.trans HX8.out).trans (Ext.below cb _ (aF _))⟩
theorem tQ{p:Prop}(h:p:=by
 clear h hr hns hn hargs hga hall;go_enter Tryz.func114,Tryz.ntmps114;go_wp2_with(go_at_call 115;refine HP.out.mono ?_;rintro e w2 ⟨css2,v2,rfl,hc2,hx2⟩);go_end0
 exact⟨css2,v2,rfl,by rw[hE];exact hc2,HX0.out.trans hx2⟩):p:=h
theorem foldl_at{α β:Type}{f:β->α->β}{l:List α}{q:Nat}{x:α}(hx:l[q]? =some x)(c:β):(l.take (q+1)).foldl f c=f ((l.take q).foldl f c) x:=by
 rw[List.take_add_one,hx,List.foldl_append];rfl
theorem all_any'{d:Nat}(HX:ExpAt d)(l:List Xp){B cb:Nat}{vars:List Fld}{vv v:Value}{c:Cmp}{css:List (List Value)}{names:List ByteArray}{vns va:Value}{w:World}(hr:∀x∈l,aZ d x=true)(h:Cp B cb vars vv c css v w)
  (hlen:c.code.length+l.length*dV d<=100000000000) (hnm:names.length+d<=1000) (hns:aK 1 bM (gX cb v) w vns names) (hl:aK 6 cE (gX cb v) w va l):
  Calls Tryz.prog 157 #[.pointer (some ⟨cb,0,none⟩),va,vns] w (kV B cb vars vv v w (l.foldl (fun c x=>bH (vars.map (·.1)) d names x c) c)):=by
 have HXh:=zh HX;have HR:=zh hr;have HNS:=zh hns;obtain⟨ans,cns,rfl,-⟩:=hns.at;obtain⟨a,cl,rfl,hl1,hl2,hla⟩:=hl.at;have HA:=zh hla;have HC0:=zh h;have hcbw:=h.lt;clear hla hl hns h HX hr;generalize hF:(fun(c:Cmp)(x:Xp)=>bH (vars.map (·.1)) d names x c)=F;have HF:=zh hF;have HLF:Hid (∀x∈l,∀c,(F c x).code.length<=c.code.length+dV d):=zh (fun x hx c=>by rw[<-hF];exact hZ _ d names x c (HR.out x hx));clear hF;go_enter Tryz.func157,Tryz.ntmps157;go_wp2_with fail;go_loopw [10] (fun iv wr=>∃(q:Nat)(css':List (List Value))(v':Value),q<=l.length/\iv=.int .i64 (q:Int)/\Hid (Cp B cb vars vv ((l.take q).foldl F c) css' v' wr)/\Hid (Ext cb v w v' wr)) (fun iv _=>l.length-(intOf iv).toNat)
 case atStart=>exact⟨0,css,v,Nat.zero_le _,rfl,HC0,zh (Ext.refl _ _ _)⟩
 case round=>
  obtain⟨q,css1,v1,hq,rfl,HC,HE⟩:=hrel;rename World=>wr
  by_cases hlt:q<l.length
  ·obtain⟨x,hx,hmem⟩:=getElem?_of_lt hlt;obtain⟨b,o,rfl,hnb,cs,het,-,hj⟩:=HA.out q x hx
   have HFL:Hid (((l.take q).foldl F c).code.length<=c.code.length+q*dV d):=zh (by
    have:=fold_len (f:=F) (a:=dV d) (l.take q) c (fun x hx c=>HLF.out x (List.mem_of_mem_take hx) c)
    rwa [List.length_take,Nat.min_eq_left vT] at this)
   have hmul:q*dV d+dV d<=l.length*dV d:=by
    have:(q+1)*dV d<=l.length*dV d:=Nat.mul_le_mul_right _ hlt
    rwa [Nat.succ_mul] at this
   have hfold:=foldl_at (f:=F) hx c
   cases x with
   |mk op n s m ns args=>
    have het2:=het;rw[bF] at het2;obtain⟨vn2,va2,rfl,-,-,hr1,hr2⟩:=het2;obtain⟨a3,c3,rfl,-⟩:=hr1.at;obtain⟨a4,c4,rfl,-⟩:=hr2.at;have hni:¬inC cb v b:=fun e=>e.elim hnb.1 hnb.2;have p0:wr.cell? ⟨b,o+q*6,none⟩=some (.int .i64 op):=HE.out.off.cell hni (hj 0 _ rfl);have p1:=HE.out.off.cell hni (hj 1 _ rfl);have p2:=HE.out.off.cell hni (hj 2 _ rfl);have p3:=HE.out.off.cell hni (hj 3 _ rfl);have p4:=HE.out.off.cell hni (hj 4 _ rfl);have p5:=HE.out.off.cell hni (hj 5 _ rfl);have hb1:=aA wr (.cells #[.int .i64 op,.int .i64 n,.string s,.string m,.slice a3 ns.length c3,.slice a4 args.length c4] 177);have hx1:=HE.out.trans (Ext.below cb v1 hb1);have HX1:=zh hx1;have HQ:=zh (HXh.out (.mk op n s m ns args) B cb vars vv v1 ((l.take q).foldl F c) css1 names _ op n s m _ _ _ (HR.out _ hmem) (HC.out.later hb1) (by have:=HFL.out;omega) hnm (gQ aV vV HNS.out hx1) (gO het hx1));rw[show bH (vars.map (·.1)) d names (.mk op n s m ns args) ((l.take q).foldl F c)=F ((l.take q).foldl F c) (.mk op n s m ns args) from by rw[<-HF.out],<-hfold] at HQ;clear hj het hx hb1 hx1 hmem hfold hr1 hr2 HA HFL hmul;generalize ns.length=k1 at *;generalize args.length=k2 at *;go_wp2_with(go_at_call 114;refine HQ.out.mono ?_;rintro e w2 ⟨css2,v2,rfl,hc2,hx2⟩);go_roundw;(case rel=>exact⟨q+1,css2,v2,vT,wH,zh hc2,zh (HX1.out.trans hx2)⟩);case measure=>simp[intOf];omega
  ·have hq':q=l.length:=vT;have HT:Hid ((l.take q).foldl F c=l.foldl F c):=zh (by rw[hq',List.take_length]);go_wp2_with fail;go_end0;exact⟨css1,v1,rfl,by have h:=HC.out;rw[HT.out] at h;exact h,HE.out⟩
theorem exp_0{d:Nat}(HX:ExpAt d)(n:Int)(s m:ByteArray)(ns:List ByteArray)(args:List Xp){B cb:Nat}{vars:List Fld}{vv v:Value}{c:Cmp}{css:List (List Value)}{names:List ByteArray}{vns vn va:Value}{w:World}
  (hr:aZ (d+1) (.mk 0 n s m ns args)=true) (h:Cp B cb vars vv c css v w) (hlen:c.code.length+dV (d+1)<=100000000000) (hnm:names.length+(d+1)<=1000) (hns:aK 1 bM (gX cb v) w vns names)
  (he:cE (gX cb v) w (.mk 0 n s m ns args) [.int .i64 0,.int .i64 n,.string s,.string m,vn,va]):
  Calls Tryz.prog 114 #[.pointer (some ⟨cb,0,none⟩),.agg #[.int .i64 0,.int .i64 n,.string s,.string m,vn,va],vns] w (kV B cb vars vv v w (bH (vars.map (·.1)) (d+1) names (.mk 0 n s m ns args) c)):=by
 have hE:bH (vars.map (·.1)) (d+1) names (.mk 0 n s m ns args) c=c.put (ins 0 n):=by rw[fV];rfl
 obtain⟨h01,h8,h2,h3,hall,hleaf⟩:=iT hr;have hlB:dV (d+1)=8*dV d+1:=rfl;rw[bF] at he;obtain⟨vn',va',e,hs,hm,hn,hargs⟩:=he;cases e;obtain⟨a1,c1,rfl,-⟩:=hn.at;obtain⟨a2,c2,rfl,hg1,hg2,hga⟩:=hargs.at;obtain⟨ans,cns,rfl,-⟩:=hns.at;have hb:=aA w (.cells #[.int .i64 0,.int .i64 n,.string s,.string m,.slice a1 ns.length c1,.slice a2 args.length c2] 177);have HX0:=zh (Ext.below cb v hb);have HC1:=zh (h.later hb);have hnb:=h.new (Nat.le_refl _);have HBB:Hid ((w.alloc (.cells #[.int .i64 0,.int .i64 n,.string s,.string m,.slice a1 ns.length c1,.slice a2 args.length c2] 177)).heap[w.heap.size]? =some (.cells #[.int .i64 0,.int .i64 n,.string s,.string m,.slice a1 ns.length c1,.slice a2 args.length c2] 177)):=zh (heap_alloc_new w _);obtain⟨⟨x0,x1,x2,x3,x4,x5⟩,-⟩:=bx6 HBB.out;have hmf:∀(fn:Fn)(first cap:Array Value)(w:World),(Instr.makeFunc fn first cap).run Tryz.prog w=.ok (.func fn first cap) w:=fun _ _ _ _=>rfl;have HP:=zh (nJ (ins 0 n) (.slice none 0 0) HC1.out vT (jX _ _ 0 n xX xX));exact tQ
theorem exp_1{d:Nat}(HX:ExpAt d)(n:Int)(s m:ByteArray)(ns:List ByteArray)(args:List Xp){B cb:Nat}{vars:List Fld}{vv v:Value}{c:Cmp}{css:List (List Value)}{names:List ByteArray}{vns vn va:Value}{w:World}
  (hr:aZ (d+1) (.mk 1 n s m ns args)=true) (h:Cp B cb vars vv c css v w) (hlen:c.code.length+dV (d+1)<=100000000000) (hnm:names.length+(d+1)<=1000) (hns:aK 1 bM (gX cb v) w vns names)
  (he:cE (gX cb v) w (.mk 1 n s m ns args) [.int .i64 1,.int .i64 n,.string s,.string m,vn,va]):
  Calls Tryz.prog 114 #[.pointer (some ⟨cb,0,none⟩),.agg #[.int .i64 1,.int .i64 n,.string s,.string m,vn,va],vns] w (kV B cb vars vv v w (bH (vars.map (·.1)) (d+1) names (.mk 1 n s m ns args) c)):=by
 have hE:bH (vars.map (·.1)) (d+1) names (.mk 1 n s m ns args) c=c.put (ins 1 n):=by rw[fV];rfl
 obtain⟨h01,h8,h2,h3,hall,hleaf⟩:=iT hr;have hlB:dV (d+1)=8*dV d+1:=rfl;rw[bF] at he;obtain⟨vn',va',e,hs,hm,hn,hargs⟩:=he;cases e;obtain⟨a1,c1,rfl,-⟩:=hn.at;obtain⟨a2,c2,rfl,hg1,hg2,hga⟩:=hargs.at;obtain⟨ans,cns,rfl,-⟩:=hns.at;have hb:=aA w (.cells #[.int .i64 1,.int .i64 n,.string s,.string m,.slice a1 ns.length c1,.slice a2 args.length c2] 177);have HX0:=zh (Ext.below cb v hb);have HC1:=zh (h.later hb);have hnb:=h.new (Nat.le_refl _);have HBB:Hid ((w.alloc (.cells #[.int .i64 1,.int .i64 n,.string s,.string m,.slice a1 ns.length c1,.slice a2 args.length c2] 177)).heap[w.heap.size]? =some (.cells #[.int .i64 1,.int .i64 n,.string s,.string m,.slice a1 ns.length c1,.slice a2 args.length c2] 177)):=zh (heap_alloc_new w _);obtain⟨⟨x0,x1,x2,x3,x4,x5⟩,-⟩:=bx6 HBB.out;have hmf:∀(fn:Fn)(first cap:Array Value)(w:World),(Instr.makeFunc fn first cap).run Tryz.prog w=.ok (.func fn first cap) w:=fun _ _ _ _=>rfl;have HP:=zh (nJ (ins 1 n) (.slice none 0 0) HC1.out vT (jX _ _ 1 n xX xX));exact tQ
theorem exp_2{d:Nat}(HX:ExpAt d)(n:Int)(s m:ByteArray)(ns:List ByteArray)(args:List Xp){B cb:Nat}{vars:List Fld}{vv v:Value}{c:Cmp}{css:List (List Value)}{names:List ByteArray}{vns vn va:Value}{w:World}
  (hr:aZ (d+1) (.mk 2 n s m ns args)=true) (h:Cp B cb vars vv c css v w) (hlen:c.code.length+dV (d+1)<=100000000000) (hnm:names.length+(d+1)<=1000) (hns:aK 1 bM (gX cb v) w vns names)
  (he:cE (gX cb v) w (.mk 2 n s m ns args) [.int .i64 2,.int .i64 n,.string s,.string m,vn,va]):
  Calls Tryz.prog 114 #[.pointer (some ⟨cb,0,none⟩),.agg #[.int .i64 2,.int .i64 n,.string s,.string m,vn,va],vns] w (kV B cb vars vv v w (bH (vars.map (·.1)) (d+1) names (.mk 2 n s m ns args) c)):=by
 have hE:bH (vars.map (·.1)) (d+1) names (.mk 2 n s m ns args) c=c.put (ins 2 (eB names s)):=by rw[fV];rfl
 obtain⟨h01,h8,h2,h3,hall,hleaf⟩:=iT hr;have hlB:dV (d+1)=8*dV d+1:=rfl;rw[bF] at he;obtain⟨vn',va',e,hs,hm,hn,hargs⟩:=he;cases e;obtain⟨a1,c1,rfl,-⟩:=hn.at;obtain⟨a2,c2,rfl,hg1,hg2,hga⟩:=hargs.at;obtain⟨ans,cns,rfl,-⟩:=hns.at;have hb:=aA w (.cells #[.int .i64 2,.int .i64 n,.string s,.string m,.slice a1 ns.length c1,.slice a2 args.length c2] 177);have HX0:=zh (Ext.below cb v hb);have HC1:=zh (h.later hb);have hnb:=h.new (Nat.le_refl _);have HBB:Hid ((w.alloc (.cells #[.int .i64 2,.int .i64 n,.string s,.string m,.slice a1 ns.length c1,.slice a2 args.length c2] 177)).heap[w.heap.size]? =some (.cells #[.int .i64 2,.int .i64 n,.string s,.string m,.slice a1 ns.length c1,.slice a2 args.length c2] 177)):=zh (heap_alloc_new w _);obtain⟨⟨x0,x1,x2,x3,x4,x5⟩,-⟩:=bx6 HBB.out;have hmf:∀(fn:Fn)(first cap:Array Value)(w:World),(Instr.makeFunc fn first cap).run Tryz.prog w=.ok (.func fn first cap) w:=fun _ _ _ _=>rfl;have hli:=lastIdx_ge s names;have HL:=zh (clast_any names s _ _ vT (hns.strs.later hb));have HP:=zh (nJ (ins 2 (eB names s)) (.slice none 0 0) HC1.out vT (jX _ _ 2 (eB names s) vT vT));clear h hr hns hn hargs hga hall;go_enter Tryz.func114,Tryz.ntmps114;go_wp2_with(first|(go_at_call 115;refine HP.out.mono ?_;rintro e w2 ⟨css2,v2,rfl,hc2,hx2⟩)|(go_at_call 153;refine HL.out.mono ?_;rintro e w1 ⟨rfl,rfl⟩));go_end0;exact⟨css2,v2,rfl,by rw[hE];exact hc2,HX0.out.trans hx2⟩
theorem exp_17{d:Nat}(HX:ExpAt d)(n:Int)(s m:ByteArray)(ns:List ByteArray)(args:List Xp){B cb:Nat}{vars:List Fld}{vv v:Value}{c:Cmp}{css:List (List Value)}{names:List ByteArray}{vns vn va:Value}{w:World}
  (hr:aZ (d+1) (.mk 17 n s m ns args)=true) (h:Cp B cb vars vv c css v w) (hlen:c.code.length+dV (d+1)<=100000000000) (hnm:names.length+(d+1)<=1000) (hns:aK 1 bM (gX cb v) w vns names)
  (he:cE (gX cb v) w (.mk 17 n s m ns args) [.int .i64 17,.int .i64 n,.string s,.string m,vn,va]):
  Calls Tryz.prog 114 #[.pointer (some ⟨cb,0,none⟩),.agg #[.int .i64 17,.int .i64 n,.string s,.string m,vn,va],vns] w (kV B cb vars vv v w (bH (vars.map (·.1)) (d+1) names (.mk 17 n s m ns args) c)):=by
 have hE:bH (vars.map (·.1)) (d+1) names (.mk 17 n s m ns args) c=c.put (ins 16 (jS (vars.map (·.1)) s)):=by rw[fV];rfl
 obtain⟨h01,h8,h2,h3,hall,hleaf⟩:=iT hr;have hlB:dV (d+1)=8*dV d+1:=rfl;rw[bF] at he;obtain⟨vn',va',e,hs,hm,hn,hargs⟩:=he;cases e;obtain⟨a1,c1,rfl,-⟩:=hn.at;obtain⟨a2,c2,rfl,hg1,hg2,hga⟩:=hargs.at;obtain⟨ans,cns,rfl,-⟩:=hns.at;have hb:=aA w (.cells #[.int .i64 17,.int .i64 n,.string s,.string m,.slice a1 ns.length c1,.slice a2 args.length c2] 177);have HX0:=zh (Ext.below cb v hb);have HC1:=zh (h.later hb);have hnb:=h.new (Nat.le_refl _);have HBB:Hid ((w.alloc (.cells #[.int .i64 17,.int .i64 n,.string s,.string m,.slice a1 ns.length c1,.slice a2 args.length c2] 177)).heap[w.heap.size]? =some (.cells #[.int .i64 17,.int .i64 n,.string s,.string m,.slice a1 ns.length c1,.slice a2 args.length c2] 177)):=zh (heap_alloc_new w _);obtain⟨⟨x0,x1,x2,x3,x4,x5⟩,-⟩:=bx6 HBB.out;have hmf:∀(fn:Fn)(first cap:Array Value)(w:World),(Instr.makeFunc fn first cap).run Tryz.prog w=.ok (.func fn first cap) w:=fun _ _ _ _=>rfl;have hli:=varIdx_range (vars.map (·.1)) s;rw[List.length_map] at hli;have hnv:=h.nv;have HV:=zh (variable_any cb vars _ vv _ _ s _ HC1.out.box HC1.out.row);have HP:=zh (fun W(hb2:Below _ _ W)=>nJ (ins 16 (jS (vars.map (·.1)) s)) (.slice none 0 0) (HC1.out.later (w':=W) hb2) vT (jX _ _ 16 (jS (vars.map (·.1)) s) vT vT));clear h hr hns hn hargs hga hall;generalize jS (vars.map (·.1)) s=ix at *;go_enter Tryz.func114,Tryz.ntmps114;go_wp2_with(first|(go_at_call 115;refine(HP.out _ hb1).mono ?_;rintro e w2 ⟨css2,v2,rfl,hc2,hx2⟩)|(go_at_call 154;refine HV.out.mono ?_;rintro e w1 ⟨rfl,hb1⟩));go_end0;exact⟨css2,v2,rfl,by rw[hE];exact hc2,(HX0.out.trans (Ext.below cb v hb1)).trans hx2⟩
theorem plain_all{d:Nat}{B cb:Nat}{vars:List Fld}{vv v:Value}{c:Cmp}{css:List (List Value)}(op n:Int)(s m:ByteArray)(ns:List ByteArray)(args:List Xp)(a1:Option Addr)(c1:Nat)(a2:Option Addr)(c2:Nat){N:Nat->Prop}{w:World}
  (hop:op≠0/\op≠1/\op≠2/\op≠17/\op≠8/\op≠9/\op≠11/\op≠12) (hr:aZ (d+1) (.mk op n s m ns args)=true) (h:Cp B cb vars vv c css v w) (hs:s.size<=8000) (hm:m.size<=8000) (hn:aK 1 bM N w (.slice a1 ns.length c1) ns):
  cW cb (vars.map (·.1)) (.mk op n s m ns args) op n s m (.slice a1 ns.length c1) (.slice a2 args.length c2) w:=by
 obtain⟨h01,h8,-,-,-,hleaf⟩:=iT hr;obtain⟨n0,n1,n2,n17,n8,n9,n11,n12⟩:=hop;have hc:op=3\/op=4\/op=5\/op=6\/op=7\/op=10\/op=13\/op=14\/op=15\/op=16\/op=18:=vT;rcases hc with rfl|rfl|rfl|rfl|rfl|rfl|rfl|rfl|rfl|rfl|rfl
 ·exact plain_3 cb _ n s m ns args a1 ns.length c1 a2 c2 w hs hm vT
 ·exact plain_4 cb _ n s m ns args a1 ns.length c1 a2 c2 w hs hm vT
 ·exact plain_5 cb _ n s m ns args a1 ns.length c1 a2 c2 w hs hm vT
 ·exact plain_6 cb _ n s m ns args a1 ns.length c1 a2 c2 w hs hm vT
 ·exact plain_7 cb _ n s m ns args a1 ns.length c1 a2 c2 w hs hm vT
 ·exact plain_10 cb _ n s m ns args a1 ns.length c1 a2 c2 w hs hm vT
 ·exact plain_13 cb _ n s m ns args _ a2 args.length c2 w xX hn.strs
 ·exact plain_14 cb _ n s m ns args a1 ns.length c1 a2 c2 w hs hm vT
 ·exact plain_15 cb _ n s m ns args a1 ns.length c1 a2 c2 w hs hm vT
 ·exact plain_16 cb _ n s m ns args a1 ns.length c1 a2 c2 w hs hm vT xX xX
 ·exact plain_18 n s m ns args a1 ns.length c1 a2 args.length c2 w h
theorem exp_else{d:Nat}(HX:ExpAt d)(op:Int)(hop:op≠0/\op≠1/\op≠2/\op≠17/\op≠8/\op≠9/\op≠11/\op≠12)(n:Int)(s m:ByteArray)(ns:List ByteArray)(args:List Xp){B cb:Nat}{vars:List Fld}{vv v:Value}{c:Cmp}{css:List (List Value)}{names:List ByteArray}{vns vn va:Value}{w:World}
  (hr:aZ (d+1) (.mk op n s m ns args)=true) (h:Cp B cb vars vv c css v w) (hlen:c.code.length+dV (d+1)<=100000000000) (hnm:names.length+(d+1)<=1000) (hns:aK 1 bM (gX cb v) w vns names)
  (he:cE (gX cb v) w (.mk op n s m ns args) [.int .i64 op,.int .i64 n,.string s,.string m,vn,va]):
  Calls Tryz.prog 114 #[.pointer (some ⟨cb,0,none⟩),.agg #[.int .i64 op,.int .i64 n,.string s,.string m,vn,va],vns] w (kV B cb vars vv v w (bH (vars.map (·.1)) (d+1) names (.mk op n s m ns args) c)):=by
 have hE:bH (vars.map (·.1)) (d+1) names (.mk op n s m ns args) c=(args.foldl (fun c x=>bH (vars.map (·.1)) d names x c) c).put (gA (vars.map (·.1)) (.mk op n s m ns args)):=by
  rw[fV,if_neg hop.1,if_neg hop.2.1,if_neg hop.2.2.1,if_neg hop.2.2.2.1,if_neg hop.2.2.2.2.1,if_neg hop.2.2.2.2.2.1,if_neg hop.2.2.2.2.2.2.1,if_neg hop.2.2.2.2.2.2.2]
 obtain⟨h01,h8,h2,h3,hall,hleaf⟩:=iT hr;have hlB:dV (d+1)=8*dV d+1:=rfl;rw[bF] at he;obtain⟨vn',va',e,hs,hm,hn,hargs⟩:=he;cases e;obtain⟨a1,c1,rfl,-⟩:=hn.at;obtain⟨a2,c2,rfl,hg1,hg2,hga⟩:=hargs.at;obtain⟨ans,cns,rfl,-⟩:=hns.at;have hb:=aA w (.cells #[.int .i64 op,.int .i64 n,.string s,.string m,.slice a1 ns.length c1,.slice a2 args.length c2] 177);have HX0:=zh (Ext.below cb v hb);have HC1:=zh (h.later hb);have hnb:=h.new (Nat.le_refl _);have HBB:Hid ((w.alloc (.cells #[.int .i64 op,.int .i64 n,.string s,.string m,.slice a1 ns.length c1,.slice a2 args.length c2] 177)).heap[w.heap.size]? =some (.cells #[.int .i64 op,.int .i64 n,.string s,.string m,.slice a1 ns.length c1,.slice a2 args.length c2] 177)):=zh (heap_alloc_new w _);obtain⟨⟨x0,x1,x2,x3,x4,x5⟩,-⟩:=bx6 HBB.out;have hmf:∀(fn:Fn)(first cap:Array Value)(w:World),(Instr.makeFunc fn first cap).run Tryz.prog w=.ok (.func fn first cap) w:=fun _ _ _ _=>rfl;have g0:(op==0)=false:=by rw[beq_eq_false_iff_ne];exact hop.1
 have g1:(op==1)=false:=by rw[beq_eq_false_iff_ne];exact hop.2.1
 have g2:(op==2)=false:=by rw[beq_eq_false_iff_ne];exact hop.2.2.1
 have g17:(op==17)=false:=by rw[beq_eq_false_iff_ne];exact hop.2.2.2.1
 have g8:(op==8)=false:=by rw[beq_eq_false_iff_ne];exact hop.2.2.2.2.1
 have g9:(op==9)=false:=by rw[beq_eq_false_iff_ne];exact hop.2.2.2.2.2.1
 have g11:(op==11)=false:=by rw[beq_eq_false_iff_ne];exact hop.2.2.2.2.2.2.1
 have g12:(op==12)=false:=by rw[beq_eq_false_iff_ne];exact hop.2.2.2.2.2.2.2
 have hml:args.length*dV d<=8*dV d:=Nat.mul_le_mul_right _ h8;have HQ:=zh (all_any' HX args hall HC1.out vT vT (gQ aV vV hns HX0.out) (gQ aG vV hargs HX0.out));have HFL:=zh (fold_len (f:=fun c x=>bH (vars.map (·.1)) d names x c) (a:=dV d) args c (fun x hx c=>hZ _ d names x c (hall x hx)));have HPL:=zh (fun css' v' W(hc:Cp B cb vars vv (args.foldl (fun c x=>bH (vars.map (·.1)) d names x c) c) css' v' W)(hx:Ext cb v w v' W)=>plain_all (d:=d) op n s m ns args a1 c1 a2 c2 hop hr hc hs hm (gQ aV vV hn hx));unfold cW at HPL;generalize args.foldl (fun c x=>bH (vars.map (·.1)) d names x c) c=cA at *;generalize gA (vars.map (·.1)) (.mk op n s m ns args)=pX at *;clear h hr hn hargs hga hall hop hleaf;go_enter Tryz.func114,Tryz.ntmps114;go_wp2_with(go_at_call 157;refine HQ.out.mono ?_;rintro e w2 ⟨css2,v2,rfl,hc2,hx2⟩;have HC2:=zh hc2;have HX2:=zh hx2;have HB2:=zh (hx2.blk hnb HBB.out);obtain⟨⟨y0,y1,y2,y3,y4,y5⟩,-⟩:=bx6 HB2.out.1);have HP2:=zh (HPL.out css2 v2 w2 HC2.out (HX0.out.trans HX2.out));clear hc2 hx2;go_wp2_with(go_at_call 158;refine HP2.out.mono ?_;rintro e w3 ⟨ax,kx,cx,rfl,hen3,hb3⟩);have hsz2:=HC2.out.size_le;have HP3:=zh (nJ pX (.slice ax kx cx) (HC2.out.later hb3) (by have:=HFL.out;omega) (hU _ _ _ _ _ _ (fun b hb _=>⟨⟨by have hb:w2.heap.size<=b:=hb;omega,fun e=>by have hb:w2.heap.size<=b:=hb;have:=(HC2.out.own b e).2;omega⟩,fun _ _ h=>h⟩) hen3));go_wp2_with(go_at_call 115;refine HP3.out.mono ?_;rintro e w4 ⟨css4,v4,rfl,hc4,hx4⟩);go_end0;exact⟨css4,v4,rfl,by rw[hE];exact hc4,((HX0.out.trans HX2.out).trans (Ext.below cb v2 hb3)).trans hx4⟩
end Go.Proofs.YtacgopankhpnbaaGreatDoor
