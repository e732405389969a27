/- -/
import Derived.Test.YtacgopankhpnbaaGreatDoorTQAF
set_option maxHeartbeats 16000000
set_option maxRecDepth 100000
set_option linter.unusedVariables false
set_option linter.unusedSimpArgs false
namespace Go.Proofs.YtacgopankhpnbaaGreatDoor
open Go.RowKit
theorem X0{p:Prop}(h:p:=by
 try simp only[z1,z2,z3]
 go_simp;refine hK.out _ _ K7.out (fun hS=>?_);clear hK K;try simp only[zn]
 refine wpAnyH_ready (rs:=[7]) aAN aAQ ?_;refine AllReadyH.cons rfl (fun K hK=>?_) AllReadyH.nil;refine step_append_lies ((w.alloc (dY i.op i.a i.s i.m an i.names.length cn)).drew.alloc (dY i.op i.a i.s i.m an i.names.length cn)) rfl _ _ 166 rfl B 171 i0 (nZ 0 0 ByteArray.empty ByteArray.empty none 0 0) 5 72 Tryz.underlying166 vA tM sY sX rfl aAM (.slice a n cp) n css.flatten aBm E6.out ⟨w.heap.size+1,0,none⟩ 1 1 [.int .i64 i.op,.int .i64 i.a,.string i.s,.string i.m,.slice an i.names.length cn] aBm rfl (World.news_of_block (cs:=#[.int .i64 i.op,.int .i64 i.a,.string i.s,.string i.m,.slice an i.names.length cn]) (t:=171) (fr:=(0,0)) (by simpa using bY (w.alloc (dY i.op i.a i.s i.m an i.names.length cn)).drew (dY i.op i.a i.s i.m an i.names.length cn))) aA1 aAM aAY aAM aA0 (w.heap.size+2) aAQ ?_;intro g cap w3 zN sA sM PL;have LY:=zh (K7.out.trans ((Off.of_grown sA).mono fun b hb=>.inr hb));obtain⟨q0,q1,q2⟩:=HH.out.push sW.out K9.out rfl (by rw[HN.out];exact zN) sA aCb;rw[HN.out] at q1 q2;have Q1:=zh q1;have Q2:=zh q2;obtain⟨⟨p0,p1,p2⟩,r0,r1,r2⟩:=bx3 q0;clear q0 q1 q2 zN sA sM b0 b1 b2 f0 f1 f2 E6 sW K9;refine hK.out _ _ LY.out (fun hS=>?_);clear hK K;refine zq 8 (.pointer (some ⟨cb,0,none⟩)) rfl ?_;refine zq 9 (.pointer (some ⟨cb,1,none⟩)) rfl ?_;try simp only[zn]
 refine zr 10 rfl (fun K hK=>?_);try simp only[z1,z2,z3]
 go_simp;refine hK.out _ _ (LY.out.trans (Off.setCell (S:=inC cb _) w3 (.inl rfl))) (fun hS=>?_);clear hK K;try simp only[zn]
 refine wpAnyH_done aAN ?_ _;clear hS;have pz:(w3.setCell ⟨cb,1,none⟩ (.slice (some ⟨g,0,none⟩) (n+1) cap)).cell? ⟨cb,1,none⟩=some (.slice (some ⟨g,0,none⟩) (n+1) cap):=(bx3 Q1.out.box).1.2.1;generalize w3.setCell ⟨cb,1,none⟩ (.slice (some ⟨g,0,none⟩) (n+1) cap)=w4 at *;go_wp2_with fail;go_ret
 exact⟨_,_,aAV,Q1.out,Q2.out⟩):p:=h
theorem Off.of_grown{v:Value}{w w':World}(h:w.grownBy w' v.ownBlock):Off (fun b=>v.ownBlock=some b) w w':=⟨h.os,h.tape,h.output,h.size,fun k hk hn=>h.block k hk (fun e=>hn e.symm)⟩
theorem Cp.push{B cb:Nat}{vars:List Fld}{vv v:Value}{c:Cmp}{css:List (List Value)}{w w2 w3:World}{i:Ins}{news:List Value}{g cap:Nat}(h:Cp B cb vars vv c css v w)(hb:Below w.heap.size w w2)
  (hi:pQ (nA B v) w2 i news) (hn5:news.length=5) (sB:w3.ownsRow B 171 5 (.slice (some ⟨g,0,none⟩) (c.code.length+1) cap) (c.code.length+1) (css.flatten++news)) (sA:w2.grownBy w3 v.ownBlock) (sM:v.ownBlock=some g\/g=w2.heap.size):
  w3.heap[cb]? =some (.cells #[vv,v,.int .i64 (c.locals:Int)] 182)/\Cp B cb vars vv (c.put i) (css++[news]) (.slice (some ⟨g,0,none⟩) (c.code.length+1) cap) (w3.setCell ⟨cb,1,none⟩ (.slice (some ⟨g,0,none⟩) (c.code.length+1) cap))/\
   Ext cb v w (.slice (some ⟨g,0,none⟩) (c.code.length+1) cap) (w3.setCell ⟨cb,1,none⟩ (.slice (some ⟨g,0,none⟩) (c.code.length+1) cap)):=by
 have h2:=h.later hb;have hcb:=h.hcb;have sL:=Off.of_grown sA;have sC:¬v.ownBlock=some cb:=fun e=>by have:=(h.own cb e).1;omega
 have TU:=sL.heap sC h2.box;have PL:=h2.gro.added hZ hi hn5 sB sA sM
 have hx:Ext cb v w (.slice (some ⟨g,0,none⟩) (c.code.length+1) cap) (w3.setCell ⟨cb,1,none⟩ (.slice (some ⟨g,0,none⟩) (c.code.length+1) cap)):=by
  refine⟨(Ba hb).trans ((sL.mono fun b hb=>.inr hb).trans (Off.setCell (S:=inC cb v) w3 (.inl rfl))),fun b sD=>?_⟩;have e:g=b:=by simpa[Value.ownBlock] using sD
  subst e;rcases sM with h1|h1
  ·exact .inl h1
  have:=hb.size;exact .inr aAM
 refine⟨TU,h.put hx ?_ (PL.stays hZ (dN.of_off (Off.setCell (S:=fun b=>b=cb) w3 rfl) fun b hb=>.inl (by have hb:b=cb:=hb;omega))),hx⟩;rw[aO TU];rfl
theorem Cp.form{B cb:Nat}{vars:List Fld}{vv v:Value}{c:Cmp}{css:List (List Value)}{w:World}(h:Cp B cb vars vv c css v w):∃a cp,v=.slice a c.code.length cp:=by
 rcases h.gro.val with⟨rfl,h0⟩|⟨g,cap,rfl,-⟩
 ·exact⟨none,0,by rw[h0];rfl⟩
 exact⟨_,_,rfl⟩
theorem oI{B cb:Nat}{vars:List Fld}{vv v:Value}{c:Cmp}{css:List (List Value)}{w:World}(i:Ins)(vn:Value)(h:Cp B cb vars vv c css v w)(hlen:c.code.length<=100000000000)
  (hi:pQ (nA B v) w i [.int .i64 i.op,.int .i64 i.a,.string i.s,.string i.m,vn]):
  Calls Tryz.prog 115 #[.pointer (some ⟨cb,0,none⟩),.agg #[.int .i64 i.op,.int .i64 i.a,.string i.s,.string i.m,vn]] w fun e w'=>∃css' v',e=.returned (.int .i64 (c.code.length:Int))/\Cp B cb vars vv (c.put i) css' v' w'/\Ext cb v w v' w':=by
 obtain⟨i0,vA,tM,sY,sX⟩:=info_parts insInfo;have HH:=zh h;have HI:=zh hi;obtain⟨vn',hvn,-,-,LL,-⟩:=hi;cases hvn;obtain⟨an,cn,rfl,-⟩:=LL;have hcb:=h.hcb;have sE:=h.lt;have tC:=h.size_le;obtain⟨a,cp,rfl⟩:=h.form;have sF:=(aA w (dY i.op i.a i.s i.m an i.names.length cn)).drew;have sD:=aB sF (aA (w.alloc (dY i.op i.a i.s i.m an i.names.length cn)).drew (dY i.op i.a i.s i.m an i.names.length cn));have E6:=zh (h.later sD).gro.own;have sW:=zh sD;have K9:=zh (hZ _ _ _ _ _ _ (bU.later sD) HI.out);have KA:∃a0 c0,vv=.slice a0 vars.length c0:=by obtain⟨a0,c0,e,-⟩:=h.row;exact⟨a0,c0,e⟩
 obtain⟨a0,c0,rfl⟩:=KA;obtain⟨⟨b0,b1,b2⟩,f0,f1,f2⟩:=bx3 (h.later sF).box;have KP:=(bx5 (show(w.alloc (dY i.op i.a i.s i.m an i.names.length cn)).heap[w.heap.size]? =some (dY i.op i.a i.s i.m an i.names.length cn) from bY w (dY i.op i.a i.s i.m an i.names.length cn))).1;obtain⟨x0,x1,x2,x3,x4⟩:=KP
 have M3:¬inC cb (.slice a c.code.length cp) w.heap.size:=fun e=>by
  rcases e with e|e
  ·omega
  have:=(h.own _ e).2;omega
 have XC:Hid (Off (inC cb (.slice a c.code.length cp)) (w.alloc (dY i.op i.a i.s i.m an i.names.length cn)) (w.alloc (dY i.op i.a i.s i.m an i.names.length cn)).drew):=zh (Off.refl _ _).drew;have K7:Hid (Off (inC cb (.slice a c.code.length cp)) (w.alloc (dY i.op i.a i.s i.m an i.names.length cn)) ((w.alloc (dY i.op i.a i.s i.m an i.names.length cn)).drew.alloc (dY i.op i.a i.s i.m an i.names.length cn))):=zh (XC.out.trans (Ba (aA _ _)));clear sF sD h;generalize PJ:c.code.length=n at *;have HN:=zh PJ;clear PJ;go_enter Tryz.func115,Tryz.ntmps115;go_wp2_with fail;refine wp_region_held_drew (S:=fun W=>Off (inC cb (.slice a n cp)) (w.alloc (dY i.op i.a i.s i.m an i.names.length cn)) W) aAN XC.out fun hS=>?_;refine zq 0 (.pointer (some ⟨cb,0,none⟩)) rfl ?_;refine zq 1 (.pointer (some ⟨cb,0,none⟩)) rfl ?_;refine zq 2 (.pointer (some ⟨cb,0,none⟩)) rfl ?_;refine zq 3 (.pointer (some ⟨cb,1,none⟩)) rfl ?_;refine zt 5 (nZ i.op i.a i.s i.m an i.names.length cn) rfl (fun W hW=>by have y0:=Off.cell hW M3 x0;have y1:=Off.cell hW M3 x1;have y2:=Off.cell hW M3 x2;have y3:=Off.cell hW M3 x3;have y4:=Off.cell hW M3 x4;go_simp) ?_;try simp only[zn]
 refine wpAnyH_ready (rs:=[4,6]) aAN aAQ ?_;refine AllReadyH.cons rfl (fun K hK=>?_) (AllReadyH.cons rfl (fun K hK=>?_) AllReadyH.nil)
 ·skip;rw[if_pos aAN];try simp only[z1,z2,z3]
  go_simp;refine hK.out _ _ hS (fun hS=>?_);clear hK K;try simp only[zn]
  refine zr 6 rfl (fun K hK=>?_);exact X0
 skip;rw[if_pos aAN];try simp only[z1,z2,z3]
 go_simp;refine hK.out _ _ K7.out (fun hS=>?_);clear hK K;try simp only[zn]
 have hlt1:cb<w.heap.size+1:=aAM;have b1w:w.cell? ⟨cb,1,none⟩=some (.slice a n cp):=(bx3 HH.out.box).1.2.1;refine zr 4 rfl (fun K hK=>?_);exact X0
theorem YD{p:Prop}(h:p:=by
 repeat(first|exact Below.refl _ _|refine Below.drew ?_|refine Below.alloc ?_ aBA _|refine Below.setCell ?_ aBA _)):p:=h
theorem aAj{p:Prop}(h:p:=by
 exact sN.below (aB HB.out sV.out) (fun k hk=>by have hk:k=w.heap.size+1:=hk;omega) (by have:=(aB HB.out sV.out).size;exact this)):p:=h
theorem rowS_of_owns{w:World}{B:Nat}{v:Value}{l:List bA}(h:w.ownsRow B 9 1 v l.length (l.map Value.string))(hb:B<=w.heap.size)(hs:∀x,x∈l->x.size<=140737488355328):aL 1 cZ (bM B) w v l:=by
 have hf:(l.map fun x=>[Value.string x]).flatten=l.map Value.string:=by
  clear h hb hs
  induction l with
  |nil=>rfl
  |cons x l ih=>simp[ih]
 refine Gro.row (T:=9) (css:=l.map fun x=>[Value.string x]) aS ⟨by rw[hf];exact h,aAQ,fun c hc=>?_,fun i x c hx hc=>?_,hb⟩
 ·obtain⟨x,-,rfl⟩:=List.mem_map.1 hc;rfl
 rw[List.getElem?_map,hx] at hc;cases hc;exact⟨rfl,hs x (List.mem_of_getElem? hx)⟩
theorem clones_any(l:List bA)(v:Value)(w:World)(hl:l.length<=1000000)(hv:Strs w v l):
  Calls Tryz.prog 156 #[v] w fun e w'=>∃v',e=.returned v'/\w'.ownsRow w.heap.size 9 1 v' l.length (l.map Value.string)/\Below w.heap.size w w':=by
 rcases hv.cases with⟨rfl,a,c,rfl⟩|⟨b,o,c,rfl,h0,h1,h2,hb,hc⟩
 ·cases a with
  |none=>exact(Tryz.slices_Clone_string_nil 0 c w).mono fun e w' h=>⟨_,h.1,by rw[h.2];exact World.ownsRow_nil _ _ _ _,by rw[h.2];exact Below.refl _ _⟩
  |some a=>exact(Tryz.slices_Clone_string_zero a c w).mono fun e w' h=>by obtain⟨v',h1,h2,-,h3⟩:=h;exact⟨v',h1,h2,h3⟩
 refine(Tryz.slices_Clone_string b o l.length c l w (Nat.le_refl _) aAM (fun j hj=>?_)).mono fun e w' h=>by obtain⟨v',h1,h2,-,h3⟩:=h;exact⟨v',h1,by simpa using h2,h3⟩
 rw[(hc j _ (List.getElem?_eq_getElem hj)).1,Qc,List.getElem?_eq_getElem hj];rfl
def cU(cb:Nat)(vars:List bA)(x:Xp)(op n:Int)(s m:bA)(vn va:Value)(w:World):Prop:=
 Calls Tryz.prog 158 #[.pointer (some ⟨cb,0,none⟩),nS op n s m vn va] w fun e w'=>∃a k c,e=.returned (nZ (gD vars x).op (gD vars x).a (gD vars x).s (gD vars x).m a k c)/\
  pQ (bM w.heap.size) w' (gD vars x) [.int .i64 (gD vars x).op,.int .i64 (gD vars x).a,.string (gD vars x).s,.string (gD vars x).m,.slice a k c]/\Below w.heap.size w w'
theorem fS{N:Nat->Prop}{w:World}{op a:Int}{s m:bA}(hs:s.size<=8000)(hm:m.size<=8000)(h0: -1<=a)(h1:a<=1099511627776):pQ N w ⟨op,a,s,m,[]⟩ [.int .i64 op,.int .i64 a,.string s,.string m,.slice none 0 0]:=⟨_,rfl,hs,hm,aL.nil _ _ _ _,h0,h1⟩
theorem eJ:noB.size<=8000:=aAO
theorem varIdx_range(l:List bA)(s:bA): -1<=kI l s/\kI l s<=l.length:=by
 unfold kI
 cases h:l.findIdx? (fun x=>decide (x=s)) with
 |none=>simp only;omega
 |some k=>
  have:=(List.findIdx?_eq_some_iff_getElem.1 h).1;simp only;omega
theorem plain_3(cb:Nat)(vars:List bA)(n:Int)(s m:bA)(names:List bA)(args:List Xp)(a1:Option Addr)(n1 c1:Nat)(a2:Option Addr)(c2:Nat)(w:World)(hs:s.size<=8000)(hm:m.size<=8000)(hl:args.length<=1000):
  cU cb vars (.mk 3 n s m names args) 3 n s m (.slice a1 n1 c1) (.slice a2 args.length c2) w:=by
 unfold cU;rw[show gD vars (.mk 3 n s m names args)=ins 4 0 from rfl];dsimp only[ins];go_enter Tryz.func158,Tryz.ntmps158;go_wp2_with fail;refine bodyPost_ret (v:=nZ 4 0 noB noB none 0 0) aBc rfl ⟨none,0,0,rfl,fS eJ eJ aAM aAM,?_⟩;exact YD
theorem plain_4(cb:Nat)(vars:List bA)(n:Int)(s m:bA)(names:List bA)(args:List Xp)(a1:Option Addr)(n1 c1:Nat)(a2:Option Addr)(c2:Nat)(w:World)(hs:s.size<=8000)(hm:m.size<=8000)(hl:args.length<=1000):
  cU cb vars (.mk 4 n s m names args) 4 n s m (.slice a1 n1 c1) (.slice a2 args.length c2) w:=by
 unfold cU;rw[show gD vars (.mk 4 n s m names args)=ins 5 0 from rfl];dsimp only[ins];go_enter Tryz.func158,Tryz.ntmps158;go_wp2_with fail;refine bodyPost_ret (v:=nZ 5 0 noB noB none 0 0) aBc rfl ⟨none,0,0,rfl,fS eJ eJ aAM aAM,?_⟩;exact YD
theorem plain_5(cb:Nat)(vars:List bA)(n:Int)(s m:bA)(names:List bA)(args:List Xp)(a1:Option Addr)(n1 c1:Nat)(a2:Option Addr)(c2:Nat)(w:World)(hs:s.size<=8000)(hm:m.size<=8000)(hl:args.length<=1000):
  cU cb vars (.mk 5 n s m names args) 5 n s m (.slice a1 n1 c1) (.slice a2 args.length c2) w:=by
 unfold cU;rw[show gD vars (.mk 5 n s m names args)=ins 6 0 from rfl];dsimp only[ins];go_enter Tryz.func158,Tryz.ntmps158;go_wp2_with fail;refine bodyPost_ret (v:=nZ 6 0 noB noB none 0 0) aBc rfl ⟨none,0,0,rfl,fS eJ eJ aAM aAM,?_⟩;exact YD
theorem plain_6(cb:Nat)(vars:List bA)(n:Int)(s m:bA)(names:List bA)(args:List Xp)(a1:Option Addr)(n1 c1:Nat)(a2:Option Addr)(c2:Nat)(w:World)(hs:s.size<=8000)(hm:m.size<=8000)(hl:args.length<=1000):
  cU cb vars (.mk 6 n s m names args) 6 n s m (.slice a1 n1 c1) (.slice a2 args.length c2) w:=by
 unfold cU;rw[show gD vars (.mk 6 n s m names args)=ins 7 0 from rfl];dsimp only[ins];go_enter Tryz.func158,Tryz.ntmps158;go_wp2_with fail;refine bodyPost_ret (v:=nZ 7 0 noB noB none 0 0) aBc rfl ⟨none,0,0,rfl,fS eJ eJ aAM aAM,?_⟩;exact YD
theorem plain_7(cb:Nat)(vars:List bA)(n:Int)(s m:bA)(names:List bA)(args:List Xp)(a1:Option Addr)(n1 c1:Nat)(a2:Option Addr)(c2:Nat)(w:World)(hs:s.size<=8000)(hm:m.size<=8000)(hl:args.length<=1000):
  cU cb vars (.mk 7 n s m names args) 7 n s m (.slice a1 n1 c1) (.slice a2 args.length c2) w:=by
 unfold cU;rw[show gD vars (.mk 7 n s m names args)=ins 8 0 from rfl];dsimp only[ins];go_enter Tryz.func158,Tryz.ntmps158;go_wp2_with fail;refine bodyPost_ret (v:=nZ 8 0 noB noB none 0 0) aBc rfl ⟨none,0,0,rfl,fS eJ eJ aAM aAM,?_⟩;exact YD
theorem plain_10(cb:Nat)(vars:List bA)(n:Int)(s m:bA)(names:List bA)(args:List Xp)(a1:Option Addr)(n1 c1:Nat)(a2:Option Addr)(c2:Nat)(w:World)(hs:s.size<=8000)(hm:m.size<=8000)(hl:args.length<=1000):
  cU cb vars (.mk 10 n s m names args) 10 n s m (.slice a1 n1 c1) (.slice a2 args.length c2) w:=by
 unfold cU;rw[show gD vars (.mk 10 n s m names args)=ins 9 0 from rfl];dsimp only[ins];go_enter Tryz.func158,Tryz.ntmps158;go_wp2_with fail;refine bodyPost_ret (v:=nZ 9 0 noB noB none 0 0) aBc rfl ⟨none,0,0,rfl,fS eJ eJ aAM aAM,?_⟩;exact YD
theorem plain_14(cb:Nat)(vars:List bA)(n:Int)(s m:bA)(names:List bA)(args:List Xp)(a1:Option Addr)(n1 c1:Nat)(a2:Option Addr)(c2:Nat)(w:World)(hs:s.size<=8000)(hm:m.size<=8000)(hl:args.length<=1000):
  cU cb vars (.mk 14 n s m names args) 14 n s m (.slice a1 n1 c1) (.slice a2 args.length c2) w:=by
 unfold cU;rw[show gD vars (.mk 14 n s m names args)=⟨13,0,s,noB,[]⟩ from rfl];dsimp only[ins];go_enter Tryz.func158,Tryz.ntmps158;go_wp2_with fail;refine bodyPost_ret (v:=nZ 13 0 s noB none 0 0) aBc rfl ⟨none,0,0,rfl,fS hs eJ aAM aAM,?_⟩;exact YD
theorem plain_15(cb:Nat)(vars:List bA)(n:Int)(s m:bA)(names:List bA)(args:List Xp)(a1:Option Addr)(n1 c1:Nat)(a2:Option Addr)(c2:Nat)(w:World)(hs:s.size<=8000)(hm:m.size<=8000)(hl:args.length<=1000):
  cU cb vars (.mk 15 n s m names args) 15 n s m (.slice a1 n1 c1) (.slice a2 args.length c2) w:=by
 unfold cU;rw[show gD vars (.mk 15 n s m names args)=⟨14,args.length,s,m,[]⟩ from rfl];dsimp only[ins];go_enter Tryz.func158,Tryz.ntmps158;go_wp2_with fail;refine bodyPost_ret (v:=nZ 14 (args.length:Int) s m none 0 0) aBc rfl ⟨none,0,0,rfl,fS hs hm aAM aAM,?_⟩;exact YD
theorem plain_16(cb:Nat)(vars:List bA)(n:Int)(s m:bA)(names:List bA)(args:List Xp)(a1:Option Addr)(n1 c1:Nat)(a2:Option Addr)(c2:Nat)(w:World)(hs:s.size<=8000)(hm:m.size<=8000)(hl:args.length<=1000)(h0:0<=n)(h8:n<=8):
  cU cb vars (.mk 16 n s m names args) 16 n s m (.slice a1 n1 c1) (.slice a2 args.length c2) w:=by
 unfold cU;rw[show gD vars (.mk 16 n s m names args)=ins 15 n from rfl];dsimp only[ins];go_enter Tryz.func158,Tryz.ntmps158;go_wp2_with fail;refine bodyPost_ret (v:=nZ 15 n noB noB none 0 0) aBc rfl ⟨none,0,0,rfl,fS eJ eJ aAM aAM,?_⟩;exact YD
theorem plain_13(cb:Nat)(vars:List bA)(n:Int)(s m:bA)(names:List bA)(args:List Xp)(vn:Value)(a2:Option Addr)(n2 c2:Nat)(w:World)(hl:names.length<=1000000)(hn:Strs w vn names):
  cU cb vars (.mk 13 n s m names args) 13 n s m vn (.slice a2 n2 c2) w:=by
 unfold cU;rw[show gD vars (.mk 13 n s m names args)=⟨12,0,noB,noB,names⟩ from rfl];dsimp only;have tI:∀x,x∈names->x.size<=140737488355328:=fun x hx=>lZ hn hx;obtain⟨a1,c1,rfl⟩:=bW hn;have hb:=aB (aA w (aQ 13 n s m a1 names.length c1 a2 n2 c2)) (aA (w.alloc (aQ 13 n s m a1 names.length c1 a2 n2 c2)) (dY 0 0 noB noB none 0 0));have HC:=zh (clones_any names _ _ hl (hn.later hb));have GW:=zh (bY (w.alloc (aQ 13 n s m a1 names.length c1 a2 n2 c2)) (dY 0 0 noB noB none 0 0));have hr0:(w.alloc (aQ 13 n s m a1 names.length c1 a2 n2 c2)).heap.size=w.heap.size+1:=aAQ;rw[hr0] at GW;have hws:=hb.size;have HB:=zh hb;clear hn hb;go_enter Tryz.func158,Tryz.ntmps158;go_wp2_with(go_at_call 156;refine HC.out.mono ?_;rintro e w1 ⟨v1,rfl,sB,sF⟩;have tF:=zh (rowS_of_owns sB sF.size tI);obtain⟨a3,c3,e3,-⟩:=tF.out;subst e3;have sV:=zh sF;obtain⟨⟨p0,p1,p2,p3,p4⟩,f0,f1,f2,f3,f4⟩:=bx5 (aD sF GW.out);clear sB sF);have hs5:=setI5_heap (aD sV.out GW.out) (.int .i64 12) (.int .i64 0) (.string noB) (.string noB) (.slice a3 names.length c3);have sN:=setI5_off w1 (w.heap.size+1) (.int .i64 12) (.int .i64 0) (.string noB) (.string noB) (.slice a3 names.length c3);obtain⟨⟨k0,k1,k2,k3,k4⟩,-⟩:=bx5 hs5;unfold setI5 at k0 k1 k2 k3 k4 sN;refine bodyPost_ret (v:=nZ 12 0 noB noB a3 names.length c3) (by simp[results,Tryz.results158,go_sem,k0,k1,k2,k3,k4]) rfl ⟨a3,names.length,c3,rfl,⟨_,rfl,eJ,eJ,?_,(by decide:(-1:Int)<=0),(by decide:(0:Int)<=1099511627776)⟩,?_⟩
 ·refine tF.out.moves aS (fun b hb _=>?_) aAO;have hb:((w.alloc (aQ 13 n s m a1 names.length c1 a2 n2 c2)).alloc (dY 0 0 noB noB none 0 0)).heap.size<=b:=hb;simp at hb;exact⟨by show w.heap.size<=b;omega,fun o u hu=>sN.cell (fun e=>aAM) hu⟩
 exact aAj
theorem plain_18{B cb:Nat}{vars:List Fld}{vv v:Value}{c:Cmp}{css:List (List Value)}(n:Int)(s m:bA)(names:List bA)(args:List Xp)(a1:Option Addr)(n1 c1:Nat)(a2:Option Addr)(n2 c2:Nat)(w:World)(h:Cp B cb vars vv c css v w):
  cU cb (vars.map (·.1)) (.mk 18 n s m names args) 18 n s m (.slice a1 n1 c1) (.slice a2 n2 c2) w:=by
 unfold cU;rw[show gD (vars.map (·.1)) (.mk 18 n s m names args)=ins 17 (kI (vars.map (·.1)) s) from rfl];dsimp only[ins];have hb:=aB (aA w (aQ 18 n s m a1 n1 c1 a2 n2 c2)) (aA (w.alloc (aQ 18 n s m a1 n1 c1 a2 n2 c2)) (dY 0 0 noB noB none 0 0));have h2:=h.later hb;have HV:=zh (variable_any cb vars _ vv _ _ s _ h2.box h2.row);have SW:=varIdx_range (vars.map (·.1)) s;rw[List.length_map] at SW;have hnv:=h.nv;generalize kI (vars.map (·.1)) s=r at HV SW ⊢;have GW:=zh (bY (w.alloc (aQ 18 n s m a1 n1 c1 a2 n2 c2)) (dY 0 0 noB noB none 0 0));have hr0:(w.alloc (aQ 18 n s m a1 n1 c1 a2 n2 c2)).heap.size=w.heap.size+1:=aAQ;rw[hr0] at GW;have hws:=hb.size;have HB:=zh hb;clear h h2 hb;go_enter Tryz.func158,Tryz.ntmps158;go_wp2_with(go_at_call 154;refine HV.out.mono ?_;rintro e w1 ⟨rfl,sF⟩;have sV:=zh sF;obtain⟨⟨p0,p1,p2,p3,p4⟩,f0,f1,f2,f3,f4⟩:=bx5 (aD sF GW.out);clear sF);have hs5:=setI5_heap (aD sV.out GW.out) (.int .i64 17) (.int .i64 r) (.string noB) (.string noB) (.slice none 0 0);have sN:=setI5_off w1 (w.heap.size+1) (.int .i64 17) (.int .i64 r) (.string noB) (.string noB) (.slice none 0 0);obtain⟨⟨k0,k1,k2,k3,k4⟩,-⟩:=bx5 hs5;unfold setI5 at k0 k1 k2 k3 k4 sN;refine bodyPost_ret (v:=nZ 17 r noB noB none 0 0) (by simp[results,Tryz.results158,go_sem,k0,k1,k2,k3,k4]) rfl ⟨none,0,0,rfl,fS eJ eJ aAM aAM,?_⟩;exact aAj
end Go.Proofs.YtacgopankhpnbaaGreatDoor
namespace Go.Proofs.YtacgopankhpnbaaGreatDoor
theorem ZT{p:Prop}(h:p:=by
 unfold iG;simp only[Cmp.fix_len];have h1:=hy (c.put (ins 11 0));rw[Cmp.put_len] at h1;have h2:=hn (((yes (c.put (ins 11 0))).put (ins 10 0)).fix c.code.length);rw[Cmp.fix_len,Cmp.put_len] at h2
 omega):p:=h
def eL:Nat->Nat
 |0=>0
 |d+1=>8*eL d+1
theorem kQ{d:Nat}{op n:Int}{s m:bA}{names:List bA}{args:List Xp}(h:aW (d+1) (.mk op n s m names args)=true):
  (0<=op/\op<19)/\args.length<=8/\(op=8\/op=9\/op=12->args.length=2)/\(op=11->args.length=3)/\(∀x∈args,aW d x=true)/\iW (.mk op n s m names args)=true:=by
 rw[aW] at h;simp only[Bool.and_eq_true,decide_eq_true_eq,Bool.or_eq_true,List.all_eq_true] at h;obtain⟨⟨⟨⟨⟨⟨⟨⟨h0,h1⟩,h2⟩,-⟩,-⟩,-⟩,-⟩,h3⟩,h4⟩:=h;have e:=cleanX_eq op n s m names args h0 h1;rw[e] at h2;refine⟨⟨h0,h1⟩,?_,?_,?_,h4,h3⟩
 ·have hc:op=0\/op=1\/op=2\/op=3\/op=4\/op=5\/op=6\/op=7\/op=8\/op=9\/op=10\/op=11\/op=12\/op=13\/op=14\/op=15\/op=16\/op=17\/op=18:=aAM;rcases hc with rfl|rfl|rfl|rfl|rfl|rfl|rfl|rfl|rfl|rfl|rfl|rfl|rfl|rfl|rfl|rfl|rfl|rfl|rfl<;>simp[pV] at h2<;>simp[iW] at h3<;>omega
 ·rintro(rfl|rfl|rfl)<;>simp[pV] at h2<;>omega
 rintro rfl;simp[pV] at h2;omega
theorem Cmp.put_len(c:Cmp)(i:Ins):(c.put i).code.length=c.code.length+1:=by simp[Cmp.put]
theorem Cmp.fix_len(c:Cmp)(k:Nat):(c.fix k).code.length=c.code.length:=by simp[Cmp.fix]
theorem choice_len{yes no:Cmp->Cmp}{a b:Nat}(hy:∀c,(yes c).code.length<=c.code.length+a)(hn:∀c,(no c).code.length<=c.code.length+b)(c:Cmp):(iG yes no c).code.length<=c.code.length+(a+b+2):=by
 exact ZT
theorem fold_len{f:Cmp->Xp->Cmp}{a:Nat}:∀(args:List Xp)(c:Cmp),(∀x∈args,∀c,(f c x).code.length<=c.code.length+a)->(args.foldl f c).code.length<=c.code.length+args.length*a
 |[],c,_=>aAQ
 |x::args,c,h=>by
  have h1:=h x aAQ c;have h2:=fold_len args (f c x) (fun y hy=>h y (by simp[hy]));rw[List.foldl_cons,List.length_cons,Nat.succ_mul];omega
theorem lenB_pos:∀{d:Nat}{x:Xp},aW d x=true->1<=eL d
 |0,x,h=>by simp[aW] at h
 |d+1,_,_=>by simp[eL]
theorem fY(vars:List bA)(d:Nat)(names:List bA)(op n:Int)(s m:bA)(ns:List bA)(args:List Xp)(c:Cmp):bH vars (d+1) names (.mk op n s m ns args) c=
  (if op=0 then c.put (ins 0 n)
  else if op=1 then c.put (ins 1 n)
  else if op=2 then c.put (ins 2 (eG names s))
  else if op=17 then c.put (ins 16 (kI vars s))
  else if op=8 then match args with
   |[x,y]=>iG (bH vars d names y) (fun c=>c.put (ins 1 0)) (bH vars d names x c)
   |_=>c
  else if op=9 then match args with
   |[x,y]=>iG (fun c=>c.put (ins 1 1)) (bH vars d names y) (bH vars d names x c)
   |_=>c
  else if op=11 then match args with
   |[x,y,z]=>iG (bH vars d names y) (bH vars d names z) (bH vars d names x c)
   |_=>c
  else if op=12 then match args with
   |[x,y]=>
    let c1:=(bH vars d names x c).put (ins 3 names.length)
    bH vars d (names++[s]) y ⟨c1.code,max c1.locals (names.length+1)⟩
   |_=>c
  else(args.foldl (fun c x=>bH vars d names x c) c).put (gD vars (.mk op n s m ns args))):=rfl
theorem iZ(vars:List bA):∀(d:Nat)(names:List bA)(x:Xp)(c:Cmp),aW d x=true->(bH vars d names x c).code.length<=c.code.length+eL d
 |0,_,_,c,_=>by simp[bH,eL]
 |d+1,names,.mk op n s m ns args,c,h=>by
  obtain⟨⟨h0,h1⟩,h8,h2,h3,ha,-⟩:=kQ h;have ih:=fun names x(hx:x∈args)c=>iZ vars d names x c (ha x hx);rw[fY,eL];split
  ·rw[Cmp.put_len];omega
  split
  ·rw[Cmp.put_len];omega
  split
  ·rw[Cmp.put_len];omega
  split
  ·rw[Cmp.put_len];omega
  split
  ·rename_i e8;have hl:=h2 (.inl e8)
   match args,hl,ih,ha with
   |[x,y],_,ih,ha=>
    have hp:=lenB_pos (ha x aAQ);have h1:=ih names x aAQ c;have h2:=choice_len (a:=eL d) (b:=1) (fun c=>ih names y aAQ c) (fun c=>Nat.le_of_eq (Cmp.put_len c (ins 1 0))) (bH vars d names x c);(try dsimp only);omega
  split
  ·rename_i e8;have hl:=h2 (.inr (.inl e8))
   match args,hl,ih,ha with
   |[x,y],_,ih,ha=>
    have hp:=lenB_pos (ha x aAQ);have h1:=ih names x aAQ c;have h2:=choice_len (a:=1) (b:=eL d) (fun c=>Nat.le_of_eq (Cmp.put_len c (ins 1 1))) (fun c=>ih names y aAQ c) (bH vars d names x c);(try dsimp only);omega
  split
  ·rename_i e8;have hl:=h3 e8
   match args,hl,ih,ha with
   |[x,y,z],_,ih,ha=>
    have hp:=lenB_pos (ha x aAQ);have h1:=ih names x aAQ c;have h2:=choice_len (a:=eL d) (b:=eL d) (fun c=>ih names y aAQ c) (fun c=>ih names z aAQ c) (bH vars d names x c);(try dsimp only);omega
  split
  ·rename_i e8;have hl:=h2 (.inr (.inr e8))
   match args,hl,ih,ha with
   |[x,y],_,ih,ha=>
    have hp:=lenB_pos (ha x aAQ);have h1:=ih names x aAQ c;have h2:=ih (names++[s]) y aAQ ⟨((bH vars d names x c).put (ins 3 names.length)).code,max ((bH vars d names x c).put (ins 3 names.length)).locals (names.length+1)⟩;dsimp only at h2 ⊢;rw[Cmp.put_len] at h2;omega
  rw[Cmp.put_len];have h1:=fold_len (f:=fun c x=>bH vars d names x c) (a:=eL d) args c (fun x hx c=>ih names x hx c);have h2:args.length*eL d<=8*eL d:=Nat.mul_le_mul_right _ h8;omega
theorem choice_ge{yes no:Cmp->Cmp}(hy:∀c,c.code.length<=(yes c).code.length)(hn:∀c,c.code.length<=(no c).code.length)(c:Cmp):c.code.length<=(iG yes no c).code.length:=by
 exact ZT
theorem fold_ge{f:Cmp->Xp->Cmp}(h:∀c x,c.code.length<=(f c x).code.length):∀(args:List Xp)(c:Cmp),c.code.length<=(args.foldl f c).code.length
 |[],c=>Nat.le_refl _
 |x::args,c=>Nat.le_trans (h c x) (fold_ge h args (f c x))
theorem put_ge(c:Cmp)(i:Ins):c.code.length<=(c.put i).code.length:=by rw[Cmp.put_len];omega
theorem compX_ge(vars:List bA):∀(d:Nat)(names:List bA)(x:Xp)(c:Cmp),c.code.length<=(bH vars d names x c).code.length
 |0,_,_,_=>by simp[bH]
 |d+1,names,.mk op n s m ns args,c=>by
  have ih:=fun names x c=>compX_ge vars d names x c;rw[fY];split
  ·exact put_ge _ _
  split
  ·exact put_ge _ _
  split
  ·exact put_ge _ _
  split
  ·exact put_ge _ _
  split
  ·split
   ·exact Nat.le_trans (ih _ _ _) (choice_ge (fun c=>ih _ _ c) (fun c=>put_ge c _) _)
   exact Nat.le_refl _
  split
  ·split
   ·exact Nat.le_trans (ih _ _ _) (choice_ge (fun c=>put_ge c _) (fun c=>ih _ _ c) _)
   exact Nat.le_refl _
  split
  ·split
   ·exact Nat.le_trans (ih _ _ _) (choice_ge (fun c=>ih _ _ c) (fun c=>ih _ _ c) _)
   exact Nat.le_refl _
  split
  ·split
   ·rename_i x y;(try dsimp only);have h1:=ih names x c;have h2:=put_ge (bH vars d names x c) (ins 3 names.length);have h3:=ih (names++[s]) y ⟨((bH vars d names x c).put (ins 3 names.length)).code,max ((bH vars d names x c).put (ins 3 names.length)).locals (names.length+1)⟩;dsimp only at h3;omega
   exact Nat.le_refl _
  exact Nat.le_trans (fold_ge (fun c x=>ih names x c) args c) (put_ge _ _)
theorem lenB_12:eL 12=9817068105:=aAO
end Go.Proofs.YtacgopankhpnbaaGreatDoor
namespace Go.Proofs.YtacgopankhpnbaaGreatDoor
open Go.RowKit
def mX(B cb:Nat)(vars:List Fld)(vv v:Value)(w:World)(c':Cmp)(e:Ending)(w':World):Prop:=∃css' v',e=.returned (.tuple #[])/\Cp B cb vars vv c' css' v' w'/\Ext cb v w v' w'
def ExpAt(d:Nat):Prop:=∀(x:Xp)(B cb:Nat)(vars:List Fld)(vv v:Value)(c:Cmp)(css:List (List Value))(names:List bA)(vns:Value)(op n:Int)(s m:bA)(vn va:Value)(w:World),
 aW d x=true->Cp B cb vars vv c css v w->c.code.length+eL d<=100000000000->names.length+d<=1000->aL 1 cZ (iK cb v) w vns names->cJ (iK cb v) w x [.int .i64 op,.int .i64 n,.string s,.string m,vn,va]->
 Calls Tryz.prog 114 #[.pointer (some ⟨cb,0,none⟩),nS op n s m vn va,vns] w (mX B cb vars vv v w (bH (vars.map (·.1)) d names x c))
theorem modify_set{α:Type}(f:α->α):∀(l:List α)(i:Nat)(x:α),l[i]? =some x->l.modify i f=l.set i (f x)
 |[],i,x,h=>aBF
 |y::l,0,x,h=>by simp at h;subst h;simp
 |y::l,i+1,x,h=>by
  simp only[List.modify_succ_cons,List.set_cons_succ];rw[modify_set f l i x aBn]
theorem Gro.cellAt{α:Type}{k:Nat}{T:TypeId}{enc:(Nat->Prop)->World->α->List Value->Prop}{B:Nat}{l:List α}{css:List (List Value)}{w:World}{g cap n i j:Nat}(h:Gro k T enc B l css (.slice (some ⟨g,0,none⟩) n cap) w)(hi:i<l.length)(hj:j<k):
  ∃u,w.cell? ⟨g,i*k+j,none⟩=some u/\w.frozen? ⟨g,i*k+j,none⟩=false:=by
 rcases h.own.2 with⟨h2,-⟩|⟨g',cap',cur,hv,hg,KR,r1,r2,r3,r4⟩
 ·cases h2
 cases hv
 have sE:i*k+j<cur.size:=by
  have h1:(i+1)*k<=cap*k:=Nat.mul_le_mul_right _ aAM;rw[Nat.succ_mul] at h1;omega
 have hb:=bx KR (i*k+j) (u:=cur[i*k+j]) (Array.getElem?_eq_getElem sE);exact⟨_,hb.1,hb.2⟩
theorem Cp.fixed{B cb:Nat}{vars:List Fld}{vv:Value}{c:Cmp}{css:List (List Value)}{w:World}{g cap n k:Nat}(h:Cp B cb vars vv c css (.slice (some ⟨g,0,none⟩) n cap) w)(hk:k<c.code.length)(hlen:c.code.length<=100000000000):
  ∃css',Cp B cb vars vv (c.fix k) css' (.slice (some ⟨g,0,none⟩) n cap) (w.setCell ⟨g,k*5+1,none⟩ (.int .i64 (c.code.length:Int)))/\Ext cb (.slice (some ⟨g,0,none⟩) n cap) w (.slice (some ⟨g,0,none⟩) n cap) (w.setCell ⟨g,k*5+1,none⟩ (.int .i64 (c.code.length:Int))):=by
 have hx:=List.getElem?_eq_getElem hk;have hkc:k<css.length:=by rw[h.gro.len];exact hk
 have hgB:B<=g:=(h.own g rfl).1;have hcb:=h.hcb;have he:Ext cb (.slice (some ⟨g,0,none⟩) n cap) w (.slice (some ⟨g,0,none⟩) n cap) (w.setCell ⟨g,k*5+1,none⟩ (.int .i64 (c.code.length:Int))):=⟨Off.setCell (S:=inC cb _) w (.inr rfl),fun b hb=>.inl hb⟩
 have QP:=h.gro.set1 (j:=1) (y:={c.code[k] with a:=(c.code.length:Int)}) (u:=.int .i64 (c.code.length:Int)) hZ hx (List.getElem?_eq_getElem hkc) aAO (fun N W hh=>by
  obtain⟨vn,h1,h2,h3,h4,-⟩:=hh
  exact⟨vn,by rw[h1];rfl,h2,h3,h4,by show(-1:Int)<=(c.code.length:Int);omega,by show(c.code.length:Int)<=1099511627776;omega⟩)
 have e:c.code.set k {c.code[k] with a:=(c.code.length:Int)}=(c.fix k).code:=by
  show _=c.code.modify k _;rw[modify_set _ _ _ _ hx]
 rw[e] at QP;exact⟨_,h.put (c':=c.fix k) he ((Off.setCell (S:=fun b=>b=g) w rfl).heap aAM h.box) QP,he⟩
theorem iH{α:Type}{k:Nat}{enc:(Nat->Prop)->World->α->List Value->Prop}(he:eW enc)(hk:0<k){cb:Nat}{v v' x:Value}{w w':World}{l:List α}(h:aL k enc (iK cb v) w x l)(hx:Ext cb v w v' w'):aL k enc (iK cb v') w' x l:=h.moves he hx.moves hk
theorem iE{cb:Nat}{v v':Value}{w w':World}{x:Xp}{cs:List Value}(h:cJ (iK cb v) w x cs)(hx:Ext cb v w v' w'):cJ (iK cb v') w' x cs:=aG _ _ _ _ _ _ hx.moves h
abbrev truthX(n:Int):Xp:=.mk 1 n noB noB [] []
theorem encX_truth(N:Nat->Prop)(w:World)(n:Int):cJ N w (truthX n) [.int .i64 1,.int .i64 n,.string noB,.string noB,.slice none 0 0,.slice none 0 0]:=by
 rw[bG];exact⟨_,_,rfl,aAO,aAO,aL.nil _ _ _ _,aL.nil _ _ _ _⟩
theorem right_truth{d:Nat}{n:Int}(h:n=0\/n=1):aW (d+1) (truthX n)=true:=by
 rcases h with rfl|rfl<;>simp[aW,cleanX,iW]
theorem Ext.blk{cb b:Nat}{v v':Value}{w w':World}{o:Obj}(h:Ext cb v w v' w')(hb:iK cb v b)(ho:w.heap[b]? =some o):w'.heap[b]? =some o/\iK cb v' b:=by
 have sE:=(Array.getElem?_eq_some_iff.1 ho).1;exact⟨h.off.heap (fun e=>e.elim hb.1 hb.2) ho,hb.1,fun e=>(h.own b e).elim hb.2 (fun h1=>aAM)⟩
theorem Cp.form1{B cb:Nat}{vars:List Fld}{vv v:Value}{c:Cmp}{css:List (List Value)}{w:World}(h:Cp B cb vars vv c css v w)(hp:0<c.code.length):∃g cp,v=.slice (some ⟨g,0,none⟩) c.code.length cp:=by
 rcases h.gro.val with⟨rfl,h0⟩|⟨g,cap,rfl,-⟩
 ·rw[h0] at hp;simp at hp
 exact⟨_,_,rfl⟩
theorem Cp.new{B cb b:Nat}{vars:List Fld}{vv v:Value}{c:Cmp}{css:List (List Value)}{w:World}(h:Cp B cb vars vv c css v w)(hb:w.heap.size<=b):iK cb v b:=⟨by have:=h.lt;omega,fun e=>by have:=(h.own b e).2;omega⟩
theorem kK(N:Nat->Prop)(w:World)(op a:Int)(h0: -1<=a)(h1:a<=1099511627776):pQ N w (ins op a) [.int .i64 op,.int .i64 a,.string noB,.string noB,.slice none 0 0]:=fS eJ eJ h0 h1
theorem choice_any{d:Nat}(HX:ExpAt d)(y z:Xp){B cb:Nat}{vars:List Fld}{vv v:Value}{c:Cmp}{css:List (List Value)}{names:List bA}{vns:Value}{opy ny:Int}{sy my:bA}{vny vay:Value}{opz nz:Int}{sz mz:bA}{vnz vaz:Value}{w:World}
  (ry:aW d y=true) (rz:aW d z=true) (h:Cp B cb vars vv c css v w) (hlen:c.code.length+(eL d+eL d+2)<=100000000000) (xY:names.length+d<=1000) (vS:aL 1 cZ (iK cb v) w vns names)
  (hy:cJ (iK cb v) w y [.int .i64 opy,.int .i64 ny,.string sy,.string my,vny,vay]) (hz:cJ (iK cb v) w z [.int .i64 opz,.int .i64 nz,.string sz,.string mz,vnz,vaz]):
  Calls Tryz.prog 155 #[.pointer (some ⟨cb,0,none⟩),nS opy ny sy my vny vay,nS opz nz sz mz vnz vaz,vns] w
   (mX B cb vars vv v w (iG (bH (vars.map (·.1)) d names y) (bH (vars.map (·.1)) d names z) c)):=by
 have HXh:=zh HX;obtain⟨⟨WH,UT,WF,rfl⟩,WG,US,WE,rfl⟩:=mH hy;obtain⟨⟨az1,nz1,cz1,rfl⟩,az2,nz2,cz2,rfl⟩:=mH hz;have sF:=aB (aA w (aQ opy ny sy my WH UT WF WG US WE)) (aA (w.alloc (aQ opy ny sy my WH UT WF WG US WE)) (aQ opz nz sz mz az1 nz1 cz1 az2 nz2 cz2));have G2:=Ext.below cb v sF;have yR:=zh G2;have AN:=zh (h.later sF);have HNS:=zh (iH aS aAO vS G2);have HYE:=zh (iE hy G2);have HZE:=zh (iE hz G2);have HYB:Hid (((w.alloc (aQ opy ny sy my WH UT WF WG US WE)).alloc (aQ opz nz sz mz az1 nz1 cz1 az2 nz2 cz2)).heap[w.heap.size]? =some (aQ opy ny sy my WH UT WF WG US WE)/\iK cb v w.heap.size):=zh ⟨aD (aA _ _) (bY w (aQ opy ny sy my WH UT WF WG US WE)),h.new (Nat.le_refl _)⟩;have HZB:Hid (((w.alloc (aQ opy ny sy my WH UT WF WG US WE)).alloc (aQ opz nz sz mz az1 nz1 cz1 az2 nz2 cz2)).heap[w.heap.size+1]? =some (aQ opz nz sz mz az1 nz1 cz1 az2 nz2 cz2)/\iK cb v (w.heap.size+1)):=zh ⟨by simpa using bY (w.alloc (aQ opy ny sy my WH UT WF WG US WE)) (aQ opz nz sz mz az1 nz1 cz1 az2 nz2 cz2),h.new aAM⟩;obtain⟨ans,cns,rfl,-⟩:=vS.at;generalize hCy:bH (vars.map (·.1)) d names y=CY;generalize hCz:bH (vars.map (·.1)) d names z=CZ;have HLY:Hid (∀c,(CY c).code.length<=c.code.length+eL d):=zh (fun c=>by rw[<-hCy];exact iZ _ d names y c ry);have HLZ:Hid (∀c,(CZ c).code.length<=c.code.length+eL d):=zh (fun c=>by rw[<-hCz];exact iZ _ d names z c rz);have HCY:=zh hCy;have HCZ:=zh hCz;have HRY:=zh ry;have HRZ:=zh rz;have HP1:=zh (oI (ins 11 0) (.slice none 0 0) AN.out aAM (kK _ _ 11 0 aAO aAO));clear hCy hCz ry rz hy hz vS h sF G2 HX;go_enter Tryz.func155,Tryz.ntmps155;go_wp2_with(go_at_call 115;refine HP1.out.mono ?_;rintro e w3 ⟨css3,v3,rfl,FG,vR⟩;have HYB3:=zh (vR.blk HYB.out.2 HYB.out.1);obtain⟨⟨y0,y1,y2,y3,y4,y5⟩,-⟩:=bx6 HYB3.out.1);have SK:=zh FG;have FX:=zh vR;have WK:=zh (vR.blk HZB.out.2 HZB.out.1);have M9:(c.put (ins 11 0)).code.length=c.code.length+1:=Cmp.put_len _ _;have HQ3:=zh (HXh.out y B cb vars vv v3 (c.put (ins 11 0)) css3 names _ opy ny sy my _ _ w3 HRY.out SK.out aAM xY (iH aS aAO HNS.out FX.out) (iE HYE.out FX.out));clear FG vR HP1 HYB;rw[HCY.out] at HQ3;go_wp2_with(go_at_call 114;refine HQ3.out.mono ?_;rintro e w4 ⟨css4,v4,rfl,VR,vF⟩);have UP:=zh VR;have xE:=zh (FX.out.trans vF);have WJ:=zh (vF.blk WK.out.2 WK.out.1);have VB:=HLY.out (c.put (ins 11 0));have HP4:=zh (oI (ins 10 0) (.slice none 0 0) UP.out aAM (kK _ _ 10 0 aAO aAO));clear VR vF HQ3 y0 y1 y2 y3 y4 y5 HYB3 WK;go_wp2_with(go_at_call 115;refine HP4.out.mono ?_;rintro e w5 ⟨css5,v5,rfl,DZ,uJ⟩);have hl5:((CY (c.put (ins 11 0))).put (ins 10 0)).code.length=(CY (c.put (ins 11 0))).code.length+1:=Cmp.put_len _ _;obtain⟨g5,cp5,rfl⟩:=DZ.form1 aAM;have UA:=zh (xE.out.trans uJ);have WI:=zh (uJ.blk WJ.out.2 WJ.out.1)
 have RB:c.code.length<(CY (c.put (ins 11 0))).code.length:=by
  rw[<-HCY.out];have:=compX_ge (vars.map (·.1)) d names y (c.put (ins 11 0));omega
 obtain⟨css6,hc6,xO⟩:=DZ.fixed (k:=c.code.length) aAM aAM;obtain⟨u5,hu5,hf5⟩:=DZ.gro.cellAt (i:=c.code.length) (j:=1) aAM aAO;obtain⟨⟨b0,b1,b2⟩,f0,f1,f2⟩:=bx3 DZ.box;have hne5:g5≠cb:=fun e=>by have h1:=(DZ.own g5 rfl).1;have h2:=DZ.hcb;omega
 have HC6:=zh hc6;have RW:=zh (UA.out.trans xO);have RT:=zh (xO.blk WI.out.2 WI.out.1);generalize hn5:((CY (c.put (ins 11 0))).put (ins 10 0)).code.length=n5 at *;have HN5:=zh hn5;have C8:(c.code.length:Int)<(n5:Int):=aAM;clear DZ uJ hc6 xO HP4 WJ WI hn5;generalize hkc:c.code.length=kc at *;have HKC:=zh hkc;clear hkc;have HLn:Hid (n5+eL d<=100000000000):=zh aAM;have wO:=zh hl5;have HGE:=zh RB;have hkn2:¬(n5:Int)<=(kc:Int):=aAM;clear hl5 VB M9 RB hlen;go_wp2_with fail;refine wp_region_held_drew (S:=fun W=>W.cell? ⟨cb,1,none⟩=some (.slice (some ⟨g5,0,none⟩) n5 cp5)) aAN b1 fun hS=>?_;refine zq 0 (.pointer (some ⟨cb,0,none⟩)) rfl ?_;refine zq 1 (.pointer (some ⟨cb,0,none⟩)) rfl ?_;refine zq 2 (.pointer (some ⟨cb,1,none⟩)) rfl ?_;refine zt 3 (.slice (some ⟨g5,0,none⟩) n5 cp5) rfl (fun W hW=>aDj) ?_;refine zq 4 (.int .i64 (kc:Int)) rfl ?_;refine zq 5 (.pointer (some ⟨cb,0,none⟩)) rfl ?_;refine zq 6 (.pointer (some ⟨cb,0,none⟩)) rfl ?_;refine zq 7 (.pointer (some ⟨cb,1,none⟩)) rfl ?_;refine zt 8 (.slice (some ⟨g5,0,none⟩) n5 cp5) rfl (fun W hW=>aDj) ?_;refine zq 9 (.int .i64 (n5:Int)) rfl ?_;refine zq 10 (.pointer (some ⟨g5,kc*5,none⟩)) rfl ?_;refine zq 11 (.pointer (some ⟨g5,kc*5+1,none⟩)) rfl ?_;try simp only[zn]
 have hu:w5.drew.cell? ⟨g5,kc*5+1,none⟩=some _:=hu5;have hf:w5.drew.frozen? ⟨g5,kc*5+1,none⟩=false:=hf5;refine zr 12 rfl (fun K hK=>?_);try simp only[z1,z2,z3]
 go_simp;refine hK.out _ _ (cell_set (fun e=>hne5 e.symm) b1) (fun hS=>?_);clear hK K;try simp only[zn]
 refine wpAnyH_done aAN ?_ _;clear hS hu hf;clear b0 b1 b2 f0 f1 f2 hu5 hf5;generalize w5.setCell ⟨g5,kc*5+1,none⟩ (.int .i64 (n5:Int))=w6 at *;have hc6d:=HC6.out.later (aE w6);have hx6d:=RW.out.trans (Ext.below cb _ (aE w6));have ST:w6.drew.heap[w.heap.size+1]? =some (aQ opz nz sz mz az1 nz1 cz1 az2 nz2 cz2)/\iK cb (.slice (some ⟨g5,0,none⟩) n5 cp5) (w.heap.size+1):=RT.out;clear HC6 RW RT;have HC6:=zh hc6d;have RW:=zh hx6d;have RT:=zh ST;clear hc6d hx6d ST;generalize w6.drew=w6 at *;have IS:=zh (HXh.out z B cb vars vv _ (((CY (c.put (ins 11 0))).put (ins 10 0)).fix kc) css6 names _ opz nz sz mz _ _ w6 HRZ.out (by have h:=HC6.out;exact h) (by have:=HN5.out;have h2:=HLn.out;rw[Cmp.fix_len];omega) xY (iH aS aAO HNS.out RW.out) (iE HZE.out RW.out));rw[HCZ.out] at IS;obtain⟨⟨z0,z1,z2,z3,z4,z5⟩,-⟩:=bx6 RT.out.1;go_wp2_with(go_at_call 114;refine IS.out.mono ?_;rintro e w7 ⟨css7,v7,rfl,VQ,uI⟩);have hl5:=wO.out;have hlen:=HLn.out;have RB:=HGE.out;have PK:=HLZ.out (((CY (c.put (ins 11 0))).put (ins 10 0)).fix kc);have RD:(((CY (c.put (ins 11 0))).put (ins 10 0)).fix kc).code.length=n5:=by rw[Cmp.fix_len];exact HN5.out
 have hge7:n5<=(CZ (((CY (c.put (ins 11 0))).put (ins 10 0)).fix kc)).code.length:=by
  rw[<-HCZ.out];have:=compX_ge (vars.map (·.1)) d names z (((CY (c.put (ins 11 0))).put (ins 10 0)).fix kc);omega
 obtain⟨g7,cp7,rfl⟩:=VQ.form1 aAM;have LV:=zh (RW.out.trans uI);obtain⟨css8,KX,vJ⟩:=VQ.fixed (k:=(CY (c.put (ins 11 0))).code.length) aAM aAM;obtain⟨u7,hu7,JJ⟩:=VQ.gro.cellAt (i:=(CY (c.put (ins 11 0))).code.length) (j:=1) aAM aAO;obtain⟨⟨b0,b1,b2⟩,f0,f1,f2⟩:=bx3 VQ.box;have hne7:g7≠cb:=fun e=>by have h1:=(VQ.own g7 rfl).1;have h2:=VQ.hcb;omega
 have HC8:=zh KX;have HX8:=zh (LV.out.trans vJ);have GG:Hid (iG CY CZ c=(CZ (((CY (c.put (ins 11 0))).put (ins 10 0)).fix kc)).fix (CY (c.put (ins 11 0))).code.length):=zh (by unfold iG;dsimp only;rw[HKC.out]);rw[GG.out];generalize hn7:(CZ (((CY (c.put (ins 11 0))).put (ins 10 0)).fix kc)).code.length=n7 at *;have HN7:=zh hn7;generalize hk7:(CY (c.put (ins 11 0))).code.length=k7 at *;have HK7:=zh hk7;have hkn7:(k7:Int)<(n7:Int):=aAM;have hkn8:¬(n7:Int)<=(k7:Int):=aAM;clear hl5 hlen RB PK RD hge7;clear VQ uI KX vJ hn7 hk7 z0 z1 z2 z3 z4 z5 IS;go_wp2_with fail;refine wp_region_held_drew (S:=fun W=>W.cell? ⟨cb,1,none⟩=some (.slice (some ⟨g7,0,none⟩) n7 cp7)) aAN b1 fun hS=>?_;refine zq 0 (.pointer (some ⟨cb,0,none⟩)) rfl ?_;refine zq 1 (.pointer (some ⟨cb,0,none⟩)) rfl ?_;refine zq 2 (.pointer (some ⟨cb,1,none⟩)) rfl ?_;refine zt 3 (.slice (some ⟨g7,0,none⟩) n7 cp7) rfl (fun W hW=>aDj) ?_;refine zq 4 (.int .i64 (k7:Int)) rfl ?_;refine zq 5 (.pointer (some ⟨cb,0,none⟩)) rfl ?_;refine zq 6 (.pointer (some ⟨cb,0,none⟩)) rfl ?_;refine zq 7 (.pointer (some ⟨cb,1,none⟩)) rfl ?_;refine zt 8 (.slice (some ⟨g7,0,none⟩) n7 cp7) rfl (fun W hW=>aDj) ?_;refine zq 9 (.int .i64 (n7:Int)) rfl ?_;refine zq 10 (.pointer (some ⟨g7,k7*5,none⟩)) rfl ?_;refine zq 11 (.pointer (some ⟨g7,k7*5+1,none⟩)) rfl ?_;try simp only[zn]
 have hu:w7.drew.cell? ⟨g7,k7*5+1,none⟩=some _:=hu7;have hf:w7.drew.frozen? ⟨g7,k7*5+1,none⟩=false:=JJ;refine zr 12 rfl (fun K hK=>?_);try simp only[z1,z2,z3]
 go_simp;refine hK.out _ _ (cell_set (fun e=>hne7 e.symm) b1) (fun hS=>?_);clear hK K;try simp only[zn]
 refine wpAnyH_done aAN ?_ _;clear hS hu hf;go_wp2_with fail;refine bodyPost_ret (v:=.tuple #[]) (by simp[results,Tryz.results155,go_sem]) rfl ?_;exact⟨css8,_,rfl,HC8.out.later (aE _),(yR.out.trans HX8.out).trans (Ext.below cb _ (aE _))⟩
theorem ZM{p:Prop}(h:p:=by
 clear h hr vS hn tY CH uF;go_enter Tryz.func114,Tryz.ntmps114;go_wp2_with(go_at_call 115;refine HP.out.mono ?_;rintro e w2 ⟨css2,v2,rfl,tU,tV⟩);go_end0
 exact⟨css2,v2,rfl,by rw[hE];exact tU,yR.out.trans tV⟩):p:=h
theorem foldl_at{α β:Type}{f:β->α->β}{l:List α}{q:Nat}{x:α}(hx:l[q]? =some x)(c:β):(l.take (q+1)).foldl f c=f ((l.take q).foldl f c) x:=by
 rw[List.take_add_one,hx,List.foldl_append];rfl
theorem all_any'{d:Nat}(HX:ExpAt d)(l:List Xp){B cb:Nat}{vars:List Fld}{vv v:Value}{c:Cmp}{css:List (List Value)}{names:List bA}{vns va:Value}{w:World}(hr:∀x∈l,aW d x=true)(h:Cp B cb vars vv c css v w)
  (hlen:c.code.length+l.length*eL d<=100000000000) (xY:names.length+d<=1000) (vS:aL 1 cZ (iK cb v) w vns names) (hl:aL 6 cJ (iK cb v) w va l):
  Calls Tryz.prog 157 #[.pointer (some ⟨cb,0,none⟩),va,vns] w (mX B cb vars vv v w (l.foldl (fun c x=>bH (vars.map (·.1)) d names x c) c)):=by
 have HXh:=zh HX;have HR:=zh hr;have HNS:=zh vS;obtain⟨ans,cns,rfl,-⟩:=vS.at;obtain⟨a,cl,rfl,yQ,zR,hla⟩:=hl.at;have HA:=zh hla;have HC0:=zh h;have hcbw:=h.lt;clear hla hl vS h HX hr;generalize hF:(fun(c:Cmp)(x:Xp)=>bH (vars.map (·.1)) d names x c)=F;have HF:=zh hF;have HLF:Hid (∀x∈l,∀c,(F c x).code.length<=c.code.length+eL d):=zh (fun x hx c=>by rw[<-hF];exact iZ _ d names x c (HR.out x hx));clear hF;go_enter Tryz.func157,Tryz.ntmps157;go_wp2_with fail;go_loopw [10] (fun iv wr=>∃(q:Nat)(css':List (List Value))(v':Value),q<=l.length/\iv=.int .i64 (q:Int)/\Hid (Cp B cb vars vv ((l.take q).foldl F c) css' v' wr)/\Hid (Ext cb v w v' wr)) (fun iv _=>l.length-(intOf iv).toNat)
 case atStart=>exact⟨0,css,v,Nat.zero_le _,rfl,HC0,zh (Ext.refl _ _ _)⟩
 case round=>
  obtain⟨q,css1,v1,hq,rfl,HC,HE⟩:=hrel;rename World=>wr
  by_cases sE:q<l.length
  ·obtain⟨x,hx,vW⟩:=getElem?_of_lt sE;obtain⟨b,o,rfl,AX,cs,wB,-,hj⟩:=HA.out q x hx
   have HFL:Hid (((l.take q).foldl F c).code.length<=c.code.length+q*eL d):=zh (by
    have:=fold_len (f:=F) (a:=eL d) (l.take q) c (fun x hx c=>HLF.out x (List.mem_of_mem_take hx) c)
    rwa [List.length_take,Nat.min_eq_left aAM] at this)
   have QY:q*eL d+eL d<=l.length*eL d:=by
    have:(q+1)*eL d<=l.length*eL d:=Nat.mul_le_mul_right _ sE
    rwa [Nat.succ_mul] at this
   have TO:=foldl_at (f:=F) hx c
   cases x with
   |mk op n s m ns args=>
    have yE:=wB;rw[bG] at yE;obtain⟨J2,va2,rfl,-,-,yC,yB⟩:=yE;obtain⟨a3,c3,rfl,-⟩:=yC.at;obtain⟨a4,c4,rfl,-⟩:=yB.at;have KL:¬inC cb v b:=fun e=>e.elim AX.1 AX.2;have p0:wr.cell? ⟨b,o+q*6,none⟩=some (.int .i64 op):=HE.out.off.cell KL (hj 0 _ rfl);have p1:=HE.out.off.cell KL (hj 1 _ rfl);have p2:=HE.out.off.cell KL (hj 2 _ rfl);have p3:=HE.out.off.cell KL (hj 3 _ rfl);have p4:=HE.out.off.cell KL (hj 4 _ rfl);have p5:=HE.out.off.cell KL (hj 5 _ rfl);have sF:=aA wr (aQ op n s m a3 ns.length c3 a4 args.length c4);have I8:=HE.out.trans (Ext.below cb v1 sF);have JL:=zh I8;have HQ:=zh (HXh.out (.mk op n s m ns args) B cb vars vv v1 ((l.take q).foldl F c) css1 names _ op n s m _ _ _ (HR.out _ vW) (HC.out.later sF) (by have:=HFL.out;omega) xY (iH aS aAO HNS.out I8) (iE wB I8));rw[show bH (vars.map (·.1)) d names (.mk op n s m ns args) ((l.take q).foldl F c)=F ((l.take q).foldl F c) (.mk op n s m ns args) from by rw[<-HF.out],<-TO] at HQ;clear hj wB hx sF I8 vW TO yC yB HA HFL QY;generalize ns.length=k1 at *;generalize args.length=k2 at *;go_wp2_with(go_at_call 114;refine HQ.out.mono ?_;rintro e w2 ⟨css2,v2,rfl,tU,tV⟩);go_roundw;(case rel=>exact⟨q+1,css2,v2,aAM,aAV,zh tU,zh (JL.out.trans tV)⟩);case measure=>simp[intOf];omega
  have AR:q=l.length:=aAM;have HT:Hid ((l.take q).foldl F c=l.foldl F c):=zh (by rw[AR,List.take_length]);go_wp2_with fail;go_end0;exact⟨css1,v1,rfl,by have h:=HC.out;rw[HT.out] at h;exact h,HE.out⟩
theorem exp_0{d:Nat}(HX:ExpAt d)(n:Int)(s m:bA)(ns:List bA)(args:List Xp){B cb:Nat}{vars:List Fld}{vv v:Value}{c:Cmp}{css:List (List Value)}{names:List bA}{vns vn va:Value}{w:World}
  (hr:aW (d+1) (.mk 0 n s m ns args)=true) (h:Cp B cb vars vv c css v w) (hlen:c.code.length+eL (d+1)<=100000000000) (xY:names.length+(d+1)<=1000) (vS:aL 1 cZ (iK cb v) w vns names)
  (he:cJ (iK cb v) w (.mk 0 n s m ns args) [.int .i64 0,.int .i64 n,.string s,.string m,vn,va]):
  Calls Tryz.prog 114 #[.pointer (some ⟨cb,0,none⟩),nS 0 n s m vn va,vns] w (mX B cb vars vv v w (bH (vars.map (·.1)) (d+1) names (.mk 0 n s m ns args) c)):=by
 have hE:bH (vars.map (·.1)) (d+1) names (.mk 0 n s m ns args) c=c.put (ins 0 n):=by rw[fY];rfl
 obtain⟨T4,h8,h2,h3,uF,vH⟩:=kQ hr;have Q5:eL (d+1)=8*eL d+1:=rfl;rw[bG] at he;obtain⟨vn',va',e,hs,hm,hn,tY⟩:=he;cases e;obtain⟨a1,c1,rfl,-⟩:=hn.at;obtain⟨a2,c2,rfl,H6,H5,CH⟩:=tY.at;obtain⟨ans,cns,rfl,-⟩:=vS.at;have hb:=aA w (aQ 0 n s m a1 ns.length c1 a2 args.length c2);have yR:=zh (Ext.below cb v hb);have AN:=zh (h.later hb);have AX:=h.new (Nat.le_refl _);have yN:Hid ((w.alloc (aQ 0 n s m a1 ns.length c1 a2 args.length c2)).heap[w.heap.size]? =some (aQ 0 n s m a1 ns.length c1 a2 args.length c2)):=zh (bY w _);obtain⟨⟨x0,x1,x2,x3,x4,x5⟩,-⟩:=bx6 yN.out;have hmf:∀(fn:Fn)(first cap:Array Value)(w:World),(Instr.makeFunc fn first cap).run Tryz.prog w=.ok (.func fn first cap) w:=fun _ _ _ _=>rfl;have HP:=zh (oI (ins 0 n) (.slice none 0 0) AN.out aAM (kK _ _ 0 n aBI aBI));exact ZM
theorem exp_1{d:Nat}(HX:ExpAt d)(n:Int)(s m:bA)(ns:List bA)(args:List Xp){B cb:Nat}{vars:List Fld}{vv v:Value}{c:Cmp}{css:List (List Value)}{names:List bA}{vns vn va:Value}{w:World}
  (hr:aW (d+1) (.mk 1 n s m ns args)=true) (h:Cp B cb vars vv c css v w) (hlen:c.code.length+eL (d+1)<=100000000000) (xY:names.length+(d+1)<=1000) (vS:aL 1 cZ (iK cb v) w vns names)
  (he:cJ (iK cb v) w (.mk 1 n s m ns args) [.int .i64 1,.int .i64 n,.string s,.string m,vn,va]):
  Calls Tryz.prog 114 #[.pointer (some ⟨cb,0,none⟩),nS 1 n s m vn va,vns] w (mX B cb vars vv v w (bH (vars.map (·.1)) (d+1) names (.mk 1 n s m ns args) c)):=by
 have hE:bH (vars.map (·.1)) (d+1) names (.mk 1 n s m ns args) c=c.put (ins 1 n):=by rw[fY];rfl
 obtain⟨T4,h8,h2,h3,uF,vH⟩:=kQ hr;have Q5:eL (d+1)=8*eL d+1:=rfl;rw[bG] at he;obtain⟨vn',va',e,hs,hm,hn,tY⟩:=he;cases e;obtain⟨a1,c1,rfl,-⟩:=hn.at;obtain⟨a2,c2,rfl,H6,H5,CH⟩:=tY.at;obtain⟨ans,cns,rfl,-⟩:=vS.at;have hb:=aA w (aQ 1 n s m a1 ns.length c1 a2 args.length c2);have yR:=zh (Ext.below cb v hb);have AN:=zh (h.later hb);have AX:=h.new (Nat.le_refl _);have yN:Hid ((w.alloc (aQ 1 n s m a1 ns.length c1 a2 args.length c2)).heap[w.heap.size]? =some (aQ 1 n s m a1 ns.length c1 a2 args.length c2)):=zh (bY w _);obtain⟨⟨x0,x1,x2,x3,x4,x5⟩,-⟩:=bx6 yN.out;have hmf:∀(fn:Fn)(first cap:Array Value)(w:World),(Instr.makeFunc fn first cap).run Tryz.prog w=.ok (.func fn first cap) w:=fun _ _ _ _=>rfl;have HP:=zh (oI (ins 1 n) (.slice none 0 0) AN.out aAM (kK _ _ 1 n aBI aBI));exact ZM
theorem exp_2{d:Nat}(HX:ExpAt d)(n:Int)(s m:bA)(ns:List bA)(args:List Xp){B cb:Nat}{vars:List Fld}{vv v:Value}{c:Cmp}{css:List (List Value)}{names:List bA}{vns vn va:Value}{w:World}
  (hr:aW (d+1) (.mk 2 n s m ns args)=true) (h:Cp B cb vars vv c css v w) (hlen:c.code.length+eL (d+1)<=100000000000) (xY:names.length+(d+1)<=1000) (vS:aL 1 cZ (iK cb v) w vns names)
  (he:cJ (iK cb v) w (.mk 2 n s m ns args) [.int .i64 2,.int .i64 n,.string s,.string m,vn,va]):
  Calls Tryz.prog 114 #[.pointer (some ⟨cb,0,none⟩),nS 2 n s m vn va,vns] w (mX B cb vars vv v w (bH (vars.map (·.1)) (d+1) names (.mk 2 n s m ns args) c)):=by
 have hE:bH (vars.map (·.1)) (d+1) names (.mk 2 n s m ns args) c=c.put (ins 2 (eG names s)):=by rw[fY];rfl
 obtain⟨T4,h8,h2,h3,uF,vH⟩:=kQ hr;have Q5:eL (d+1)=8*eL d+1:=rfl;rw[bG] at he;obtain⟨vn',va',e,hs,hm,hn,tY⟩:=he;cases e;obtain⟨a1,c1,rfl,-⟩:=hn.at;obtain⟨a2,c2,rfl,H6,H5,CH⟩:=tY.at;obtain⟨ans,cns,rfl,-⟩:=vS.at;have hb:=aA w (aQ 2 n s m a1 ns.length c1 a2 args.length c2);have yR:=zh (Ext.below cb v hb);have AN:=zh (h.later hb);have AX:=h.new (Nat.le_refl _);have yN:Hid ((w.alloc (aQ 2 n s m a1 ns.length c1 a2 args.length c2)).heap[w.heap.size]? =some (aQ 2 n s m a1 ns.length c1 a2 args.length c2)):=zh (bY w _);obtain⟨⟨x0,x1,x2,x3,x4,x5⟩,-⟩:=bx6 yN.out;have hmf:∀(fn:Fn)(first cap:Array Value)(w:World),(Instr.makeFunc fn first cap).run Tryz.prog w=.ok (.func fn first cap) w:=fun _ _ _ _=>rfl;have hli:=lastIdx_ge s names;have HL:=zh (clast_any names s _ _ aAM (vS.strs.later hb));have HP:=zh (oI (ins 2 (eG names s)) (.slice none 0 0) AN.out aAM (kK _ _ 2 (eG names s) aAM aAM));clear h hr vS hn tY CH uF;go_enter Tryz.func114,Tryz.ntmps114;go_wp2_with(first|(go_at_call 115;refine HP.out.mono ?_;rintro e w2 ⟨css2,v2,rfl,tU,tV⟩)|(go_at_call 153;refine HL.out.mono ?_;rintro e w1 ⟨rfl,rfl⟩));go_end0;exact⟨css2,v2,rfl,by rw[hE];exact tU,yR.out.trans tV⟩
theorem exp_17{d:Nat}(HX:ExpAt d)(n:Int)(s m:bA)(ns:List bA)(args:List Xp){B cb:Nat}{vars:List Fld}{vv v:Value}{c:Cmp}{css:List (List Value)}{names:List bA}{vns vn va:Value}{w:World}
  (hr:aW (d+1) (.mk 17 n s m ns args)=true) (h:Cp B cb vars vv c css v w) (hlen:c.code.length+eL (d+1)<=100000000000) (xY:names.length+(d+1)<=1000) (vS:aL 1 cZ (iK cb v) w vns names)
  (he:cJ (iK cb v) w (.mk 17 n s m ns args) [.int .i64 17,.int .i64 n,.string s,.string m,vn,va]):
  Calls Tryz.prog 114 #[.pointer (some ⟨cb,0,none⟩),nS 17 n s m vn va,vns] w (mX B cb vars vv v w (bH (vars.map (·.1)) (d+1) names (.mk 17 n s m ns args) c)):=by
 have hE:bH (vars.map (·.1)) (d+1) names (.mk 17 n s m ns args) c=c.put (ins 16 (kI (vars.map (·.1)) s)):=by rw[fY];rfl
 obtain⟨T4,h8,h2,h3,uF,vH⟩:=kQ hr;have Q5:eL (d+1)=8*eL d+1:=rfl;rw[bG] at he;obtain⟨vn',va',e,hs,hm,hn,tY⟩:=he;cases e;obtain⟨a1,c1,rfl,-⟩:=hn.at;obtain⟨a2,c2,rfl,H6,H5,CH⟩:=tY.at;obtain⟨ans,cns,rfl,-⟩:=vS.at;have hb:=aA w (aQ 17 n s m a1 ns.length c1 a2 args.length c2);have yR:=zh (Ext.below cb v hb);have AN:=zh (h.later hb);have AX:=h.new (Nat.le_refl _);have yN:Hid ((w.alloc (aQ 17 n s m a1 ns.length c1 a2 args.length c2)).heap[w.heap.size]? =some (aQ 17 n s m a1 ns.length c1 a2 args.length c2)):=zh (bY w _);obtain⟨⟨x0,x1,x2,x3,x4,x5⟩,-⟩:=bx6 yN.out;have hmf:∀(fn:Fn)(first cap:Array Value)(w:World),(Instr.makeFunc fn first cap).run Tryz.prog w=.ok (.func fn first cap) w:=fun _ _ _ _=>rfl;have hli:=varIdx_range (vars.map (·.1)) s;rw[List.length_map] at hli;have hnv:=h.nv;have HV:=zh (variable_any cb vars _ vv _ _ s _ AN.out.box AN.out.row);have HP:=zh (fun W(sD:Below _ _ W)=>oI (ins 16 (kI (vars.map (·.1)) s)) (.slice none 0 0) (AN.out.later (w':=W) sD) aAM (kK _ _ 16 (kI (vars.map (·.1)) s) aAM aAM));clear h hr vS hn tY CH uF;generalize kI (vars.map (·.1)) s=ix at *;go_enter Tryz.func114,Tryz.ntmps114;go_wp2_with(first|(go_at_call 115;refine(HP.out _ sF).mono ?_;rintro e w2 ⟨css2,v2,rfl,tU,tV⟩)|(go_at_call 154;refine HV.out.mono ?_;rintro e w1 ⟨rfl,sF⟩));go_end0;exact⟨css2,v2,rfl,by rw[hE];exact tU,(yR.out.trans (Ext.below cb v sF)).trans tV⟩
theorem plain_all{d:Nat}{B cb:Nat}{vars:List Fld}{vv v:Value}{c:Cmp}{css:List (List Value)}(op n:Int)(s m:bA)(ns:List bA)(args:List Xp)(a1:Option Addr)(c1:Nat)(a2:Option Addr)(c2:Nat){N:Nat->Prop}{w:World}
  (vG:op≠0/\op≠1/\op≠2/\op≠17/\op≠8/\op≠9/\op≠11/\op≠12) (hr:aW (d+1) (.mk op n s m ns args)=true) (h:Cp B cb vars vv c css v w) (hs:s.size<=8000) (hm:m.size<=8000) (hn:aL 1 cZ N w (.slice a1 ns.length c1) ns):
  cU cb (vars.map (·.1)) (.mk op n s m ns args) op n s m (.slice a1 ns.length c1) (.slice a2 args.length c2) w:=by
 obtain⟨T4,h8,-,-,-,vH⟩:=kQ hr;obtain⟨n0,n1,n2,n17,n8,n9,n11,n12⟩:=vG;have hc:op=3\/op=4\/op=5\/op=6\/op=7\/op=10\/op=13\/op=14\/op=15\/op=16\/op=18:=aAM;rcases hc with rfl|rfl|rfl|rfl|rfl|rfl|rfl|rfl|rfl|rfl|rfl
 ·exact plain_3 cb _ n s m ns args a1 ns.length c1 a2 c2 w hs hm aAM
 ·exact plain_4 cb _ n s m ns args a1 ns.length c1 a2 c2 w hs hm aAM
 ·exact plain_5 cb _ n s m ns args a1 ns.length c1 a2 c2 w hs hm aAM
 ·exact plain_6 cb _ n s m ns args a1 ns.length c1 a2 c2 w hs hm aAM
 ·exact plain_7 cb _ n s m ns args a1 ns.length c1 a2 c2 w hs hm aAM
 ·exact plain_10 cb _ n s m ns args a1 ns.length c1 a2 c2 w hs hm aAM
 ·exact plain_13 cb _ n s m ns args _ a2 args.length c2 w aBI hn.strs
 ·exact plain_14 cb _ n s m ns args a1 ns.length c1 a2 c2 w hs hm aAM
 ·exact plain_15 cb _ n s m ns args a1 ns.length c1 a2 c2 w hs hm aAM
 ·exact plain_16 cb _ n s m ns args a1 ns.length c1 a2 c2 w hs hm aAM aBI aBI
 exact plain_18 n s m ns args a1 ns.length c1 a2 args.length c2 w h
theorem exp_else{d:Nat}(HX:ExpAt d)(op:Int)(vG:op≠0/\op≠1/\op≠2/\op≠17/\op≠8/\op≠9/\op≠11/\op≠12)(n:Int)(s m:bA)(ns:List bA)(args:List Xp){B cb:Nat}{vars:List Fld}{vv v:Value}{c:Cmp}{css:List (List Value)}{names:List bA}{vns vn va:Value}{w:World}
  (hr:aW (d+1) (.mk op n s m ns args)=true) (h:Cp B cb vars vv c css v w) (hlen:c.code.length+eL (d+1)<=100000000000) (xY:names.length+(d+1)<=1000) (vS:aL 1 cZ (iK cb v) w vns names)
  (he:cJ (iK cb v) w (.mk op n s m ns args) [.int .i64 op,.int .i64 n,.string s,.string m,vn,va]):
  Calls Tryz.prog 114 #[.pointer (some ⟨cb,0,none⟩),nS op n s m vn va,vns] w (mX B cb vars vv v w (bH (vars.map (·.1)) (d+1) names (.mk op n s m ns args) c)):=by
 have hE:bH (vars.map (·.1)) (d+1) names (.mk op n s m ns args) c=(args.foldl (fun c x=>bH (vars.map (·.1)) d names x c) c).put (gD (vars.map (·.1)) (.mk op n s m ns args)):=by
  rw[fY,if_neg vG.1,if_neg vG.2.1,if_neg vG.2.2.1,if_neg vG.2.2.2.1,if_neg vG.2.2.2.2.1,if_neg vG.2.2.2.2.2.1,if_neg vG.2.2.2.2.2.2.1,if_neg vG.2.2.2.2.2.2.2]
 obtain⟨T4,h8,h2,h3,uF,vH⟩:=kQ hr;have Q5:eL (d+1)=8*eL d+1:=rfl;rw[bG] at he;obtain⟨vn',va',e,hs,hm,hn,tY⟩:=he;cases e;obtain⟨a1,c1,rfl,-⟩:=hn.at;obtain⟨a2,c2,rfl,H6,H5,CH⟩:=tY.at;obtain⟨ans,cns,rfl,-⟩:=vS.at;have hb:=aA w (aQ op n s m a1 ns.length c1 a2 args.length c2);have yR:=zh (Ext.below cb v hb);have AN:=zh (h.later hb);have AX:=h.new (Nat.le_refl _);have yN:Hid ((w.alloc (aQ op n s m a1 ns.length c1 a2 args.length c2)).heap[w.heap.size]? =some (aQ op n s m a1 ns.length c1 a2 args.length c2)):=zh (bY w _);obtain⟨⟨x0,x1,x2,x3,x4,x5⟩,-⟩:=bx6 yN.out;have hmf:∀(fn:Fn)(first cap:Array Value)(w:World),(Instr.makeFunc fn first cap).run Tryz.prog w=.ok (.func fn first cap) w:=fun _ _ _ _=>rfl;have g0:(op==0)=false:=by rw[Qa];exact vG.1
 have g1:(op==1)=false:=by rw[Qa];exact vG.2.1
 have g2:(op==2)=false:=by rw[Qa];exact vG.2.2.1
 have g17:(op==17)=false:=by rw[Qa];exact vG.2.2.2.1
 have g8:(op==8)=false:=by rw[Qa];exact vG.2.2.2.2.1
 have g9:(op==9)=false:=by rw[Qa];exact vG.2.2.2.2.2.1
 have g11:(op==11)=false:=by rw[Qa];exact vG.2.2.2.2.2.2.1
 have g12:(op==12)=false:=by rw[Qa];exact vG.2.2.2.2.2.2.2
 have hml:args.length*eL d<=8*eL d:=Nat.mul_le_mul_right _ h8;have HQ:=zh (all_any' HX args uF AN.out aAM aAM (iH aS aAO vS yR.out) (iH aG aAO tY yR.out));have HFL:=zh (fold_len (f:=fun c x=>bH (vars.map (·.1)) d names x c) (a:=eL d) args c (fun x hx c=>iZ _ d names x c (uF x hx)));have HPL:=zh (fun css' v' W(hc:Cp B cb vars vv (args.foldl (fun c x=>bH (vars.map (·.1)) d names x c) c) css' v' W)(hx:Ext cb v w v' W)=>plain_all (d:=d) op n s m ns args a1 c1 a2 c2 vG hr hc hs hm (iH aS aAO hn hx));unfold cU at HPL;generalize args.foldl (fun c x=>bH (vars.map (·.1)) d names x c) c=cA at *;generalize gD (vars.map (·.1)) (.mk op n s m ns args)=pX at *;clear h hr hn tY CH uF vG vH;go_enter Tryz.func114,Tryz.ntmps114;go_wp2_with(go_at_call 157;refine HQ.out.mono ?_;rintro e w2 ⟨css2,v2,rfl,tU,tV⟩;have BL:=zh tU;have uM:=zh tV;have sW:=zh (tV.blk AX yN.out);obtain⟨⟨y0,y1,y2,y3,y4,y5⟩,-⟩:=bx6 sW.out.1);have W7:=zh (HPL.out css2 v2 w2 BL.out (yR.out.trans uM.out));clear tU tV;go_wp2_with(go_at_call 158;refine W7.out.mono ?_;rintro e w3 ⟨ax,kx,cx,rfl,hen3,uA⟩);have U0:=BL.out.size_le;have HP3:=zh (oI pX (.slice ax kx cx) (BL.out.later uA) (by have:=HFL.out;omega) (hZ _ _ _ _ _ _ (fun b hb _=>⟨⟨by have hb:w2.heap.size<=b:=hb;omega,fun e=>by have hb:w2.heap.size<=b:=hb;have:=(BL.out.own b e).2;omega⟩,fun _ _ h=>h⟩) hen3));go_wp2_with(go_at_call 115;refine HP3.out.mono ?_;rintro e w4 ⟨css4,v4,rfl,VR,vF⟩);go_end0;exact⟨css4,v4,rfl,by rw[hE];exact VR,((yR.out.trans uM.out).trans (Ext.below cb v2 uA)).trans vF⟩
theorem YK{p:Prop}(h:p:=by
 have V3:=Ext.below cb (.slice q3 ET.code.length q4) PO;have HQ7:=zh (HX y B cb vars _ _ _ css4 (names++[s]) _ opy ny sy my _ _ w7 (EL.out y aCn) (UP.out.later PO) (by have:=HLP.out;exact this) (by rw[List.length_append];simp;omega) E2 (iE CR (xE.out.trans V3)));have LV:=zh V3;have HHat:=zh sM;clear BP sA sM tK PO E3 E2 V3;refine hK.out _ _ ⟨_,LV.out⟩ (fun hS=>?_);clear hK K;try simp only[zn]
 refine zr 11 rfl (fun K hK=>?_);try simp only[z1,z2,z3]
 go_simp;refine HQ7.out.mono ?_;rintro e w8 ⟨css8,v8,rfl,KX,vJ⟩;refine hK.out _ _ ⟨v8,LV.out.trans vJ⟩ (fun hS=>?_);clear hK K;try simp only[zn]
 refine wpAnyH_done aAN ?_ _;clear hS;go_wp2_with fail;go_end0
 exact⟨css8,v8,rfl,by first|(rw[hE,HCP.out];exact KX)|(rw[hE];exact KX)|exact KX,(xE.out.trans LV.out).trans vJ⟩):p:=h
theorem YM{p:Prop}(h:p:=by
 try simp only[z1,z2,z3]
 go_simp;refine A6.out.mono ?_;rintro e w5 ⟨css5,v5,rfl,DZ,uJ⟩;refine hK.out _ _ ⟨v5,(Ext.below cb v2 xM.out).trans uJ⟩ (fun hS=>?_);clear hK K;try simp only[zn]
 refine wpAnyH_done aAN ?_ _;clear hS;go_wp2_with fail;go_end0
 exact⟨css5,v5,rfl,by first|exact DZ|(rw[hE];exact DZ),(uM.out.trans (Ext.below cb v2 xM.out)).trans uJ⟩):p:=h
theorem nI{N:Nat->Prop}{w:World}{x:Xp}{cs:List Value}(h:cJ N w x cs):∃(op n:Int)(s m:bA)(a1:Option Addr)(n1 c1:Nat)(a2:Option Addr)(n2 c2:Nat),cs=[.int .i64 op,.int .i64 n,.string s,.string m,.slice a1 n1 c1,.slice a2 n2 c2]:=by
 cases x with
 |mk op n s m names args=>
  rw[bG] at h;obtain⟨v1,v2,e,-,-,h1,h2⟩:=h;obtain⟨a1,c1,rfl,-⟩:=h1.at;obtain⟨a2,c2,rfl,-⟩:=h2.at;exact⟨op,n,s,m,a1,_,c1,a2,_,c2,e⟩
theorem enters_truth:∀args w,(callFunc 152 args).run Tryz.prog w=.ok (.enter 152 args) w:=enters_of Tryz.func152 aAN rfl
theorem truth_any(k:Int)(w:World):Calls Tryz.prog 152 #[.int .i64 k] w fun e w'=>e=.returned (dV 1 k noB noB none 0 0 none 0 0)/\Below w.heap.size w w':=by
 go_enter Tryz.func152,Tryz.ntmps152;go_wp2_with fail;refine bodyPost_ret (v:=dV 1 k noB noB none 0 0 none 0 0) (by simp[results,Tryz.results152,go_sem]) rfl ⟨rfl,?_⟩;exact YD
theorem owns_form{w:World}{B n:Nat}{e:TypeId}{k:Nat}{v:Value}{xs:List Value}(h:w.ownsRow B e k v n xs):∃a c,v=.slice a n c:=by
 rcases h.2 with⟨rfl,rfl⟩|⟨g,cap,cur,rfl,-⟩
 ·exact⟨none,0,rfl⟩
 exact⟨_,_,rfl⟩
theorem Ext.nin{cb b:Nat}{v v':Value}{w w':World}(h:Ext cb v w v' w')(hb:iK cb v b)(sE:b<w.heap.size):¬inC cb v' b:=fun e=>e.elim hb.1 (fun e=>(h.own b e).elim hb.2 (fun h1=>aAM))
theorem right_pos{d:Nat}{x:Xp}(h:aW d x=true):∃d',d=d'+1:=by
 cases d with
 |zero=>simp[aW] at h
 |succ d'=>exact⟨d',rfl⟩
theorem two_of{α:Type}{l:List α}(h:l.length=2):∃x y,l=[x,y]:=by
 match l,h with
 |[x,y],_=>exact⟨x,y,rfl⟩
theorem three_of{α:Type}{l:List α}(h:l.length=3):∃x y z,l=[x,y,z]:=by
 match l,h with
 |[x,y,z],_=>exact⟨x,y,z,rfl⟩
theorem exp_89{d:Nat}(HX:ExpAt d)(op:Int)(ho:op=8\/op=9)(n:Int)(s m:bA)(ns:List bA)(args:List Xp){B cb:Nat}{vars:List Fld}{vv v:Value}{c:Cmp}{css:List (List Value)}{names:List bA}{vns vn va:Value}{w:World}
  (hr:aW (d+1) (.mk op n s m ns args)=true) (h:Cp B cb vars vv c css v w) (hlen:c.code.length+eL (d+1)<=100000000000) (xY:names.length+(d+1)<=1000) (vS:aL 1 cZ (iK cb v) w vns names)
  (he:cJ (iK cb v) w (.mk op n s m ns args) [.int .i64 op,.int .i64 n,.string s,.string m,vn,va]):
  Calls Tryz.prog 114 #[.pointer (some ⟨cb,0,none⟩),nS op n s m vn va,vns] w (mX B cb vars vv v w (bH (vars.map (·.1)) (d+1) names (.mk op n s m ns args) c)):=by
 obtain⟨N4,h8',LS,h3',AT,-⟩:=kQ hr;obtain⟨x,y,wM⟩:=two_of (LS aAM);obtain⟨d',rfl⟩:=right_pos (AT x aB7);clear N4 h8' LS h3' AT;obtain⟨T4,h8,h2,h3,uF,vH⟩:=kQ hr;have Q5:eL (d'+1+1)=8*eL (d'+1)+1:=rfl;rw[bG] at he;obtain⟨vn',va',e,hs,hm,hn,tY⟩:=he;cases e;obtain⟨a1,c1,rfl,-⟩:=hn.at;obtain⟨a2,c2,rfl,H6,H5,CH⟩:=tY.at;obtain⟨ans,cns,rfl,-⟩:=vS.at;have hb:=aA w (aQ op n s m a1 ns.length c1 a2 args.length c2);have yR:=zh (Ext.below cb v hb);have AN:=zh (h.later hb);have AX:=h.new (Nat.le_refl _);have yN:Hid ((w.alloc (aQ op n s m a1 ns.length c1 a2 args.length c2)).heap[w.heap.size]? =some (aQ op n s m a1 ns.length c1 a2 args.length c2)):=zh (bY w _);obtain⟨⟨x0,x1,x2,x3,x4,x5⟩,-⟩:=bx6 yN.out;obtain⟨b,o,rfl,zO,csx,FD,-,DB⟩:=CH 0 x aB2;obtain⟨opx,nx,sx,mx,k1x,k2x,k3x,k4x,k5x,k6x,rfl⟩:=nI FD;have SP:w.cell? ⟨b,o,none⟩=some (.int .i64 opx):=aCQ;have px1:w.cell? ⟨b,o+1,none⟩=some (.int .i64 nx):=aCR;have px2:w.cell? ⟨b,o+2,none⟩=some (.string sx):=aCS;have px3:w.cell? ⟨b,o+3,none⟩=some (.string mx):=aCT;have px4:w.cell? ⟨b,o+4,none⟩=some (.slice k1x k2x k3x):=aCU;have px5:w.cell? ⟨b,o+5,none⟩=some (.slice k4x k5x k6x):=aCV;obtain⟨bby,ooy,ey,-,csy,CR,-,DA⟩:=CH 1 y aB2;cases ey;obtain⟨opy,ny,sy,my,QD,QC,QB,QA,P9,P8,rfl⟩:=nI CR;have py0:w.cell? ⟨b,o+6,none⟩=some (.int .i64 opy):=aCW;have py1:w.cell? ⟨b,o+6+1,none⟩=some (.int .i64 ny):=aCX;have py2:w.cell? ⟨b,o+6+2,none⟩=some (.string sy):=aCY;have py3:w.cell? ⟨b,o+6+3,none⟩=some (.string my):=aCZ;have py4:w.cell? ⟨b,o+6+4,none⟩=some (.slice QD QC QB):=aC0;have py5:w.cell? ⟨b,o+6+5,none⟩=some (.slice QA P9 P8):=aC1;have IB:b<w.heap.size:=cT SP;have vV:¬inC cb v b:=fun e=>e.elim zO.1 zO.2;have P0:(w.alloc (aQ op n s m a1 ns.length c1 (some ⟨b,o,none⟩) args.length c2)).cell? ⟨b,o,none⟩=_:=aC hb SP;have P1:(w.alloc (aQ op n s m a1 ns.length c1 (some ⟨b,o,none⟩) args.length c2)).cell? ⟨b,o+1,none⟩=_:=aC hb px1;have P2:(w.alloc (aQ op n s m a1 ns.length c1 (some ⟨b,o,none⟩) args.length c2)).cell? ⟨b,o+2,none⟩=_:=aC hb px2;have P3:(w.alloc (aQ op n s m a1 ns.length c1 (some ⟨b,o,none⟩) args.length c2)).cell? ⟨b,o+3,none⟩=_:=aC hb px3;have P4:(w.alloc (aQ op n s m a1 ns.length c1 (some ⟨b,o,none⟩) args.length c2)).cell? ⟨b,o+4,none⟩=_:=aC hb px4;have P5:(w.alloc (aQ op n s m a1 ns.length c1 (some ⟨b,o,none⟩) args.length c2)).cell? ⟨b,o+5,none⟩=_:=aC hb px5;have Q6:args.length=2:=aB2;have LM:(0:Int)<(args.length:Int):=aAM;have BF:(1:Int)<(args.length:Int):=aAM;have hlp:1<=eL (d'+1):=by rw[eL];omega
 have hlX:=iZ (vars.map (·.1)) (d'+1) names x c (uF x aB7);have BI:=zh (HX x B cb vars vv v (c) css names _ _ _ _ _ _ _ _ (uF _ aB7) AN.out aAM aAM (iH aS aAO vS yR.out) (iE FD yR.out));have N6:=zh wM;have EL:=zh uF;clear wM h2 h3 Q6 h hr vH tY hn uF CH h8;rcases ho with rfl|rfl
 all_goals
  go_enter Tryz.func114,Tryz.ntmps114;go_wp2_with(go_at_call 114;refine BI.out.mono ?_;rintro e w2 ⟨css2,v2,rfl,tU,tV⟩);have uM:=zh (yR.out.trans tV);have BL:=zh tU;have sW:=zh (tV.blk AX yN.out);have CO:¬inC cb v2 w.heap.size:=fun e=>e.elim sW.out.2.1 sW.out.2.2;have uP:¬inC cb v2 b:=uM.out.nin zO IB;obtain⟨⟨r0,r1,r2,r3,r4,r5⟩,-⟩:=bx6 sW.out.1;have I6:=uM.out.off.cell vV py0;have I5:=uM.out.off.cell vV py1;have EP:=uM.out.off.cell vV py2;have hy3:=uM.out.off.cell vV py3;have hy4:=uM.out.off.cell vV py4;have hy5:=uM.out.off.cell vV py5
 ·have hE:bH (vars.map (·.1)) (d'+1+1) names (.mk 8 n s m ns args) c=iG (bH (vars.map (·.1)) (d'+1) names y) (bH (vars.map (·.1)) (d'+1) names (truthX 0)) (bH (vars.map (·.1)) (d'+1) names x c):=by rw[N6.out,fY];rfl
  refine wp_region_held_drew (S:=fun W=>∃V,Ext cb v2 w2 V W) aAN ⟨v2,Ext.below cb v2 (aE w2)⟩ fun hS=>?_;refine zq 0 (.pointer (some ⟨cb,0,none⟩)) rfl ?_;refine zq 1 (.pointer (some ⟨w.heap.size,5,none⟩)) rfl ?_;refine zt 2 (.slice (some ⟨b,o,none⟩) args.length c2) rfl (fun W hW=>aBv) ?_;refine zq 3 (.pointer (some ⟨b,o+6,none⟩)) rfl ?_;refine zt 4 (dV opy ny sy my QD QC QB QA P9 P8) rfl (fun W hW=>aA9) ?_;refine zq 5 (.func (.func 152) #[] #[]) rfl ?_;refine zq 7 (.slice ans names.length cns) rfl ?_;try simp only[zn]
  refine zr 6 rfl (fun K hK=>?_);try simp only[z1,z2,z3]
  have NJ:=enters_truth;go_simp;refine(truth_any 0 _).mono ?_;rintro e w3 ⟨rfl,uA⟩;have xM:=zh (aB (aE w2) uA);refine hK.out _ _ ⟨v2,Ext.below cb v2 xM.out⟩ (fun hS=>?_);clear hK K;try simp only[zn]
  have A6:=zh (choice_any HX y (truthX 0) (EL.out y aCn) (right_truth (.inl rfl)) (BL.out.later xM.out) aAM aAM (iH aS aAO vS (uM.out.trans (Ext.below cb v2 xM.out))) (iE CR (uM.out.trans (Ext.below cb v2 xM.out))) (encX_truth _ _ 0));refine zr 8 rfl (fun K hK=>?_);exact YM
 have hE:bH (vars.map (·.1)) (d'+1+1) names (.mk 9 n s m ns args) c=iG (bH (vars.map (·.1)) (d'+1) names (truthX 1)) (bH (vars.map (·.1)) (d'+1) names y) (bH (vars.map (·.1)) (d'+1) names x c):=by rw[N6.out,fY];rfl
 refine wp_region_held_drew (S:=fun W=>∃V,Ext cb v2 w2 V W) aAN ⟨v2,Ext.below cb v2 (aE w2)⟩ fun hS=>?_;refine zq 0 (.pointer (some ⟨cb,0,none⟩)) rfl ?_;refine zq 1 (.func (.func 152) #[] #[]) rfl ?_;refine zq 3 (.pointer (some ⟨w.heap.size,5,none⟩)) rfl ?_;refine zt 4 (.slice (some ⟨b,o,none⟩) args.length c2) rfl (fun W hW=>aBv) ?_;refine zq 5 (.pointer (some ⟨b,o+6,none⟩)) rfl ?_;refine zt 6 (dV opy ny sy my QD QC QB QA P9 P8) rfl (fun W hW=>aA9) ?_;refine zq 7 (.slice ans names.length cns) rfl ?_;try simp only[zn]
 refine zr 2 rfl (fun K hK=>?_);try simp only[z1,z2,z3]
 have NJ:=enters_truth;go_simp;refine(truth_any 1 _).mono ?_;rintro e w3 ⟨rfl,uA⟩;have xM:=zh (aB (aE w2) uA);refine hK.out _ _ ⟨v2,Ext.below cb v2 xM.out⟩ (fun hS=>?_);clear hK K;try simp only[zn]
 have A6:=zh (choice_any HX (truthX 1) y (right_truth (.inr rfl)) (EL.out y aCn) (BL.out.later xM.out) aAM aAM (iH aS aAO vS (uM.out.trans (Ext.below cb v2 xM.out))) (encX_truth _ _ 1) (iE CR (uM.out.trans (Ext.below cb v2 xM.out))));refine zr 8 rfl (fun K hK=>?_);exact YM
theorem exp_11{d:Nat}(HX:ExpAt d)(n:Int)(s m:bA)(ns:List bA)(args:List Xp){B cb:Nat}{vars:List Fld}{vv v:Value}{c:Cmp}{css:List (List Value)}{names:List bA}{vns vn va:Value}{w:World}
  (hr:aW (d+1) (.mk 11 n s m ns args)=true) (h:Cp B cb vars vv c css v w) (hlen:c.code.length+eL (d+1)<=100000000000) (xY:names.length+(d+1)<=1000) (vS:aL 1 cZ (iK cb v) w vns names)
  (he:cJ (iK cb v) w (.mk 11 n s m ns args) [.int .i64 11,.int .i64 n,.string s,.string m,vn,va]):
  Calls Tryz.prog 114 #[.pointer (some ⟨cb,0,none⟩),nS 11 n s m vn va,vns] w (mX B cb vars vv v w (bH (vars.map (·.1)) (d+1) names (.mk 11 n s m ns args) c)):=by
 obtain⟨N4,h8',LS,h3',AT,-⟩:=kQ hr;obtain⟨x,y,z,wM⟩:=three_of (h3' rfl);obtain⟨d',rfl⟩:=right_pos (AT x aB7);have hE:bH (vars.map (·.1)) (d'+1+1) names (.mk 11 n s m ns args) c=iG (bH (vars.map (·.1)) (d'+1) names y) (bH (vars.map (·.1)) (d'+1) names z) (bH (vars.map (·.1)) (d'+1) names x c):=by rw[wM,fY];rfl
 clear N4 h8' LS h3' AT;obtain⟨T4,h8,h2,h3,uF,vH⟩:=kQ hr;have Q5:eL (d'+1+1)=8*eL (d'+1)+1:=rfl;rw[bG] at he;obtain⟨vn',va',e,hs,hm,hn,tY⟩:=he;cases e;obtain⟨a1,c1,rfl,-⟩:=hn.at;obtain⟨a2,c2,rfl,H6,H5,CH⟩:=tY.at;obtain⟨ans,cns,rfl,-⟩:=vS.at;have hb:=aA w (aQ 11 n s m a1 ns.length c1 a2 args.length c2);have yR:=zh (Ext.below cb v hb);have AN:=zh (h.later hb);have AX:=h.new (Nat.le_refl _);have yN:Hid ((w.alloc (aQ 11 n s m a1 ns.length c1 a2 args.length c2)).heap[w.heap.size]? =some (aQ 11 n s m a1 ns.length c1 a2 args.length c2)):=zh (bY w _);obtain⟨⟨x0,x1,x2,x3,x4,x5⟩,-⟩:=bx6 yN.out;obtain⟨b,o,rfl,zO,csx,FD,-,DB⟩:=CH 0 x aB2;obtain⟨opx,nx,sx,mx,k1x,k2x,k3x,k4x,k5x,k6x,rfl⟩:=nI FD;have SP:w.cell? ⟨b,o,none⟩=some (.int .i64 opx):=aCQ;have px1:w.cell? ⟨b,o+1,none⟩=some (.int .i64 nx):=aCR;have px2:w.cell? ⟨b,o+2,none⟩=some (.string sx):=aCS;have px3:w.cell? ⟨b,o+3,none⟩=some (.string mx):=aCT;have px4:w.cell? ⟨b,o+4,none⟩=some (.slice k1x k2x k3x):=aCU;have px5:w.cell? ⟨b,o+5,none⟩=some (.slice k4x k5x k6x):=aCV;obtain⟨bby,ooy,ey,-,csy,CR,-,DA⟩:=CH 1 y aB2;cases ey;obtain⟨opy,ny,sy,my,QD,QC,QB,QA,P9,P8,rfl⟩:=nI CR;have py0:w.cell? ⟨b,o+6,none⟩=some (.int .i64 opy):=aCW;have py1:w.cell? ⟨b,o+6+1,none⟩=some (.int .i64 ny):=aCX;have py2:w.cell? ⟨b,o+6+2,none⟩=some (.string sy):=aCY;have py3:w.cell? ⟨b,o+6+3,none⟩=some (.string my):=aCZ;have py4:w.cell? ⟨b,o+6+4,none⟩=some (.slice QD QC QB):=aC0;have py5:w.cell? ⟨b,o+6+5,none⟩=some (.slice QA P9 P8):=aC1;obtain⟨bbz,ooz,ez,-,csz,hetz,-,hjz⟩:=CH 2 z aB2;cases ez;obtain⟨opz,nz,sz,mz,k1z,k2z,k3z,k4z,k5z,k6z,rfl⟩:=nI hetz;have pz0:w.cell? ⟨b,o+12,none⟩=some (.int .i64 opz):=by have h:=hjz 0 _ rfl;simpa using h
 have pz1:w.cell? ⟨b,o+12+1,none⟩=some (.int .i64 nz):=by have h:=hjz 1 _ rfl;simpa using h
 have pz2:w.cell? ⟨b,o+12+2,none⟩=some (.string sz):=by have h:=hjz 2 _ rfl;simpa using h
 have pz3:w.cell? ⟨b,o+12+3,none⟩=some (.string mz):=by have h:=hjz 3 _ rfl;simpa using h
 have pz4:w.cell? ⟨b,o+12+4,none⟩=some (.slice k1z k2z k3z):=by have h:=hjz 4 _ rfl;simpa using h
 have pz5:w.cell? ⟨b,o+12+5,none⟩=some (.slice k4z k5z k6z):=by have h:=hjz 5 _ rfl;simpa using h
 have IB:b<w.heap.size:=cT SP;have vV:¬inC cb v b:=fun e=>e.elim zO.1 zO.2;have P0:(w.alloc (aQ 11 n s m a1 ns.length c1 (some ⟨b,o,none⟩) args.length c2)).cell? ⟨b,o,none⟩=_:=aC hb SP;have P1:(w.alloc (aQ 11 n s m a1 ns.length c1 (some ⟨b,o,none⟩) args.length c2)).cell? ⟨b,o+1,none⟩=_:=aC hb px1;have P2:(w.alloc (aQ 11 n s m a1 ns.length c1 (some ⟨b,o,none⟩) args.length c2)).cell? ⟨b,o+2,none⟩=_:=aC hb px2;have P3:(w.alloc (aQ 11 n s m a1 ns.length c1 (some ⟨b,o,none⟩) args.length c2)).cell? ⟨b,o+3,none⟩=_:=aC hb px3;have P4:(w.alloc (aQ 11 n s m a1 ns.length c1 (some ⟨b,o,none⟩) args.length c2)).cell? ⟨b,o+4,none⟩=_:=aC hb px4;have P5:(w.alloc (aQ 11 n s m a1 ns.length c1 (some ⟨b,o,none⟩) args.length c2)).cell? ⟨b,o+5,none⟩=_:=aC hb px5;have Q6:args.length=3:=aB2;have LM:(0:Int)<(args.length:Int):=aAM;have BF:(1:Int)<(args.length:Int):=aAM;have CG:(2:Int)<(args.length:Int):=aAM;have hlp:1<=eL (d'+1):=by rw[eL];omega
 have hlX:=iZ (vars.map (·.1)) (d'+1) names x c (uF x aB7);have BI:=zh (HX x B cb vars vv v (c) css names _ _ _ _ _ _ _ _ (uF _ aB7) AN.out aAM aAM (iH aS aAO vS yR.out) (iE FD yR.out));have N6:=zh wM;have EL:=zh uF;clear wM h2 h3 Q6 h hr vH tY hn uF CH h8;go_enter Tryz.func114,Tryz.ntmps114;go_wp2_with(go_at_call 114;refine BI.out.mono ?_;rintro e w2 ⟨css2,v2,rfl,tU,tV⟩);have uM:=zh (yR.out.trans tV);have BL:=zh tU;have sW:=zh (tV.blk AX yN.out);have CO:¬inC cb v2 w.heap.size:=fun e=>e.elim sW.out.2.1 sW.out.2.2;have uP:¬inC cb v2 b:=uM.out.nin zO IB;obtain⟨⟨r0,r1,r2,r3,r4,r5⟩,-⟩:=bx6 sW.out.1;have I6:=uM.out.off.cell vV py0;have I5:=uM.out.off.cell vV py1;have EP:=uM.out.off.cell vV py2;have hy3:=uM.out.off.cell vV py3;have hy4:=uM.out.off.cell vV py4;have hy5:=uM.out.off.cell vV py5;have tM:=uM.out.off.cell vV pz0;have sY:=uM.out.off.cell vV pz1;have sX:=uM.out.off.cell vV pz2;have CD:=uM.out.off.cell vV pz3;have GO:=uM.out.off.cell vV pz4;have BO:=uM.out.off.cell vV pz5;refine wp_region_held_drew (S:=fun W=>∃V,Ext cb v2 w2 V W) aAN ⟨v2,Ext.below cb v2 (aE w2)⟩ fun hS=>?_;refine zq 0 (.pointer (some ⟨cb,0,none⟩)) rfl ?_;refine zq 1 (.pointer (some ⟨w.heap.size,5,none⟩)) rfl ?_;refine zt 2 (.slice (some ⟨b,o,none⟩) args.length c2) rfl (fun W hW=>aBv) ?_;refine zq 3 (.pointer (some ⟨b,o+6,none⟩)) rfl ?_;refine zt 4 (dV opy ny sy my QD QC QB QA P9 P8) rfl (fun W hW=>aA9) ?_;refine zq 5 (.pointer (some ⟨w.heap.size,5,none⟩)) rfl ?_;refine zt 6 (.slice (some ⟨b,o,none⟩) args.length c2) rfl (fun W hW=>aBv) ?_;refine zq 7 (.pointer (some ⟨b,o+12,none⟩)) rfl ?_;refine zt 8 (dV opz nz sz mz k1z k2z k3z k4z k5z k6z) rfl (fun W hW=>by obtain⟨V9,hV⟩:=hW;have q5:=hV.off.cell CO r5;have zz0:=hV.off.cell uP tM;have zz1:=hV.off.cell uP sY;have zz2:=hV.off.cell uP sX;have zz3:=hV.off.cell uP CD;have zz4:=hV.off.cell uP GO;have zz5:=hV.off.cell uP BO;go_simp) ?_;refine zq 9 (.slice ans names.length cns) rfl ?_;try simp only[zn]
 have xM:=zh (aE w2);have A6:=zh (choice_any HX y z (EL.out y aCn) (EL.out z aCn) (BL.out.later xM.out) aAM aAM (iH aS aAO vS (uM.out.trans (Ext.below cb v2 xM.out))) (iE CR (uM.out.trans (Ext.below cb v2 xM.out))) (iE hetz (uM.out.trans (Ext.below cb v2 xM.out))));refine zr 10 rfl (fun K hK=>?_);exact YM
theorem Cp.locals{B cb:Nat}{vars:List Fld}{vv v:Value}{c:Cmp}{css:List (List Value)}{w:World}(h:Cp B cb vars vv c css v w)(k:Nat):∃css',Cp B cb vars vv ⟨c.code,k⟩ css' v (w.setCell ⟨cb,2,none⟩ (.int .i64 (k:Int)))/\Ext cb v w v (w.setCell ⟨cb,2,none⟩ (.int .i64 (k:Int))):=by
 have hcb:=h.hcb;have hx:Ext cb v w v (w.setCell ⟨cb,2,none⟩ (.int .i64 (k:Int))):=⟨Off.setCell (S:=inC cb v) w (.inl rfl),fun b hb=>.inl hb⟩;refine⟨css,h.put hx ?_ (h.gro.stays hZ (dN.of_off (Off.setCell (S:=fun b=>b=cb) w rfl) fun b hb=>.inl (by have hb:b=cb:=hb;omega))),hx⟩;rw[aO h.box];rfl
theorem exp_12{d:Nat}(HX:ExpAt d)(n:Int)(s m:bA)(ns:List bA)(args:List Xp){B cb:Nat}{vars:List Fld}{vv v:Value}{c:Cmp}{css:List (List Value)}{names:List bA}{vns vn va:Value}{w:World}
  (hr:aW (d+1) (.mk 12 n s m ns args)=true) (h:Cp B cb vars vv c css v w) (hlen:c.code.length+eL (d+1)<=100000000000) (xY:names.length+(d+1)<=1000) (vS:aL 1 cZ (iK cb v) w vns names)
  (he:cJ (iK cb v) w (.mk 12 n s m ns args) [.int .i64 12,.int .i64 n,.string s,.string m,vn,va]):
  Calls Tryz.prog 114 #[.pointer (some ⟨cb,0,none⟩),nS 12 n s m vn va,vns] w (mX B cb vars vv v w (bH (vars.map (·.1)) (d+1) names (.mk 12 n s m ns args) c)):=by
 obtain⟨N4,h8',LS,h3',AT,-⟩:=kQ hr;obtain⟨x,y,wM⟩:=two_of (LS aAM);obtain⟨d',rfl⟩:=right_pos (AT x aB7);have hE:bH (vars.map (·.1)) (d'+1+1) names (.mk 12 n s m ns args) c=bH (vars.map (·.1)) (d'+1) (names++[s]) y ⟨((bH (vars.map (·.1)) (d'+1) names x c).put (ins 3 names.length)).code,max ((bH (vars.map (·.1)) (d'+1) names x c).put (ins 3 names.length)).locals (names.length+1)⟩:=by rw[wM,fY];rfl
 clear N4 h8' LS h3' AT;obtain⟨T4,h8,h2,h3,uF,vH⟩:=kQ hr;have Q5:eL (d'+1+1)=8*eL (d'+1)+1:=rfl;rw[bG] at he;obtain⟨vn',va',e,hs,hm,hn,tY⟩:=he;cases e;obtain⟨a1,c1,rfl,-⟩:=hn.at;obtain⟨a2,c2,rfl,H6,H5,CH⟩:=tY.at;obtain⟨ans,cns,rfl,-⟩:=vS.at;have hb:=aA w (aQ 12 n s m a1 ns.length c1 a2 args.length c2);have yR:=zh (Ext.below cb v hb);have AN:=zh (h.later hb);have AX:=h.new (Nat.le_refl _);have yN:Hid ((w.alloc (aQ 12 n s m a1 ns.length c1 a2 args.length c2)).heap[w.heap.size]? =some (aQ 12 n s m a1 ns.length c1 a2 args.length c2)):=zh (bY w _);obtain⟨⟨x0,x1,x2,x3,x4,x5⟩,-⟩:=bx6 yN.out;obtain⟨b,o,rfl,zO,csx,FD,-,DB⟩:=CH 0 x aB2;obtain⟨opx,nx,sx,mx,k1x,k2x,k3x,k4x,k5x,k6x,rfl⟩:=nI FD;have SP:w.cell? ⟨b,o,none⟩=some (.int .i64 opx):=aCQ;have px1:w.cell? ⟨b,o+1,none⟩=some (.int .i64 nx):=aCR;have px2:w.cell? ⟨b,o+2,none⟩=some (.string sx):=aCS;have px3:w.cell? ⟨b,o+3,none⟩=some (.string mx):=aCT;have px4:w.cell? ⟨b,o+4,none⟩=some (.slice k1x k2x k3x):=aCU;have px5:w.cell? ⟨b,o+5,none⟩=some (.slice k4x k5x k6x):=aCV;obtain⟨bby,ooy,ey,-,csy,CR,-,DA⟩:=CH 1 y aB2;cases ey;obtain⟨opy,ny,sy,my,QD,QC,QB,QA,P9,P8,rfl⟩:=nI CR;have py0:w.cell? ⟨b,o+6,none⟩=some (.int .i64 opy):=aCW;have py1:w.cell? ⟨b,o+6+1,none⟩=some (.int .i64 ny):=aCX;have py2:w.cell? ⟨b,o+6+2,none⟩=some (.string sy):=aCY;have py3:w.cell? ⟨b,o+6+3,none⟩=some (.string my):=aCZ;have py4:w.cell? ⟨b,o+6+4,none⟩=some (.slice QD QC QB):=aC0;have py5:w.cell? ⟨b,o+6+5,none⟩=some (.slice QA P9 P8):=aC1;have IB:b<w.heap.size:=cT SP;have vV:¬inC cb v b:=fun e=>e.elim zO.1 zO.2;have P0:(w.alloc (aQ 12 n s m a1 ns.length c1 (some ⟨b,o,none⟩) args.length c2)).cell? ⟨b,o,none⟩=_:=aC hb SP;have P1:(w.alloc (aQ 12 n s m a1 ns.length c1 (some ⟨b,o,none⟩) args.length c2)).cell? ⟨b,o+1,none⟩=_:=aC hb px1;have P2:(w.alloc (aQ 12 n s m a1 ns.length c1 (some ⟨b,o,none⟩) args.length c2)).cell? ⟨b,o+2,none⟩=_:=aC hb px2;have P3:(w.alloc (aQ 12 n s m a1 ns.length c1 (some ⟨b,o,none⟩) args.length c2)).cell? ⟨b,o+3,none⟩=_:=aC hb px3;have P4:(w.alloc (aQ 12 n s m a1 ns.length c1 (some ⟨b,o,none⟩) args.length c2)).cell? ⟨b,o+4,none⟩=_:=aC hb px4;have P5:(w.alloc (aQ 12 n s m a1 ns.length c1 (some ⟨b,o,none⟩) args.length c2)).cell? ⟨b,o+5,none⟩=_:=aC hb px5;have Q6:args.length=2:=aB2;have LM:(0:Int)<(args.length:Int):=aAM;have BF:(1:Int)<(args.length:Int):=aAM;have hlp:1<=eL (d'+1):=by rw[eL];omega
 have hlX:=iZ (vars.map (·.1)) (d'+1) names x c (uF x aB7);have BI:=zh (HX x B cb vars vv v (c) css names _ _ _ _ _ _ _ _ (uF _ aB7) AN.out aAM aAM (iH aS aAO vS yR.out) (iE FD yR.out));have N6:=zh wM;have EL:=zh uF;clear wM h2 h3 Q6 h hr vH tY hn uF CH h8;obtain⟨i0,vA,tM,sY,sX⟩:=info_parts strInfo;have HNS:=zh vS.strs;go_enter Tryz.func114,Tryz.ntmps114;go_wp2_with(go_at_call 114;refine BI.out.mono ?_;rintro e w2 ⟨css2,v2,rfl,tU,tV⟩);have uM:=zh (yR.out.trans tV);have BL:=zh tU;have sW:=zh (tV.blk AX yN.out);have CO:¬inC cb v2 w.heap.size:=fun e=>e.elim sW.out.2.1 sW.out.2.2;have uP:¬inC cb v2 b:=uM.out.nin zO IB;obtain⟨⟨r0,r1,r2,r3,r4,r5⟩,-⟩:=bx6 sW.out.1;have hlx:=iZ (vars.map (·.1)) (d'+1) names x c (EL.out x aCn);have W7:=zh (oI (ins 3 (names.length:Int)) (.slice none 0 0) BL.out aAM (kK _ _ 3 _ aAM aAM));have hlc:((bH (vars.map (·.1)) (d'+1) names x c).put (ins 3 (names.length:Int))).code.length=(bH (vars.map (·.1)) (d'+1) names x c).code.length+1:=Cmp.put_len _ _;generalize hcp:(bH (vars.map (·.1)) (d'+1) names x c).put (ins 3 (names.length:Int))=ET at *;have KM:max (ET.locals:Int) ((names.length:Int)+1)=((max ET.locals (names.length+1):Nat):Int):=aAM;have HCP:=zh hcp;have HLC:=zh hlc;have HLX:=zh hlx;have HLP0:=zh hlen;have HLB:=zh Q5;clear hlc hcp hlx hlen Q5 hlp hlX;go_wp2_with(go_at_call 115;refine W7.out.mono ?_;rintro e w3 ⟨css3,v3,rfl,FG,vR⟩;obtain⟨⟨g0,g1,g2⟩,f0,f1,f2⟩:=bx3 FG.box);have FX:=zh (uM.out.trans vR);have SK:=zh FG;have wL:=zh (vR.blk sW.out.2 sW.out.1);have KA:∃q1 q2,vv=.slice q1 vars.length q2:=by obtain⟨a0,c0,e,-⟩:=FG.row;exact⟨a0,c0,e⟩
 obtain⟨q1,q2,rfl⟩:=KA;obtain⟨q3,q4,rfl⟩:=FG.form;have hcp4:∃css4,Cp B cb vars (.slice q1 vars.length q2) ⟨ET.code,max ET.locals (names.length+1)⟩ css4 (.slice q3 ET.code.length q4) (w3.setCell ⟨cb,2,none⟩ (.int .i64 ((max ET.locals (names.length+1):Nat):Int)))/\Ext cb (.slice q3 ET.code.length q4) w3 (.slice q3 ET.code.length q4) (w3.setCell ⟨cb,2,none⟩ (.int .i64 ((max ET.locals (names.length+1):Nat):Int))):=FG.locals _;obtain⟨css4,VR,vF⟩:=hcp4;have xE:=zh (FX.out.trans vF);have UP:=zh VR;have xJ:=zh (vF.blk wL.out.2 wL.out.1);clear FG vR VR vF W7;have HLP:=zh (show ET.code.length+eL (d'+1)<=100000000000 from by have h1:=HLC.out;have h2:=HLX.out;have h3:=HLP0.out;have h4:=HLB.out;omega);clear g0 g1 g2 f0 f1 f2 r0 r1 r2 r3 r4 r5;generalize w3.setCell ⟨cb,2,none⟩ (.int .i64 ((max ET.locals (names.length+1):Nat):Int))=w4 at *;have KK:¬inC cb (.slice q3 ET.code.length q4) w.heap.size:=fun e=>e.elim xJ.out.2.1 xJ.out.2.2;have uP:¬inC cb (.slice q3 ET.code.length q4) b:=xE.out.nin zO IB;obtain⟨⟨r0,r1,r2,r3,r4,r5⟩,-⟩:=bx6 xJ.out.1;have I6:=xE.out.off.cell vV py0;have I5:=xE.out.off.cell vV py1;have EP:=xE.out.off.cell vV py2;have hy3:=xE.out.off.cell vV py3;have hy4:=xE.out.off.cell vV py4;have hy5:=xE.out.off.cell vV py5;have HN4:=zh (iH aS aAO vS xE.out)
 have QM:∀x,x∈names++[s]->x.size<=140737488355328:=fun x hx=>by
  rcases List.mem_append.1 hx with hx|hx
  ·exact lZ vS.strs hx
  rw[List.mem_singleton.1 hx];omega
 have BQ:(names++[s]).map Value.string=names.map Value.string++[Value.string s]:=aAQ;refine wp_region_held_drew (S:=fun W=>∃V,Ext cb (.slice q3 ET.code.length q4) w4 V W) aAN ⟨_,Ext.below cb _ (aE w4)⟩ fun hS=>?_;refine zq 0 (.pointer (some ⟨cb,0,none⟩)) rfl ?_;refine zq 1 (.pointer (some ⟨w.heap.size,5,none⟩)) rfl ?_;refine zt 2 (.slice (some ⟨b,o,none⟩) args.length c2) rfl (fun W hW=>aCo) ?_;refine zq 3 (.pointer (some ⟨b,o+6,none⟩)) rfl ?_;refine zt 4 (dV opy ny sy my QD QC QB QA P9 P8) rfl (fun W hW=>by obtain⟨V9,hV⟩:=hW;have q5:=hV.off.cell KK r5;have q2:=hV.off.cell KK r2;have zy0:=hV.off.cell uP I6;have zy1:=hV.off.cell uP I5;have zy2:=hV.off.cell uP EP;have zy3:=hV.off.cell uP hy3;have zy4:=hV.off.cell uP hy4;have zy5:=hV.off.cell uP hy5;go_simp) ?_;refine zq 5 (.slice ans names.length cns) rfl ?_;refine zq 7 (.pointer (some ⟨w.heap.size,2,none⟩)) rfl ?_;refine zt 8 (.string s) rfl (fun W hW=>aCo) ?_;try simp only[zn]
 refine wpAnyH_ready (rs:=[6,9]) aAN aAQ ?_;refine AllReadyH.cons rfl (fun K hK=>?_) (AllReadyH.cons rfl (fun K hK=>?_) AllReadyH.nil)
 ·skip;rw[if_pos aAN];try simp only[z1,z2,z3]
  go_simp;refine(clones_any names _ w4.drew aAM (HN4.out.strs.later (aE w4))).mono ?_;rintro e w5 ⟨vcl,rfl,xL,hb5⟩;have FT:Below w4.heap.size w4 w5:=aB (aE w4) hb5;have HB45:=zh FT;refine hK.out _ _ ⟨_,Ext.below cb _ HB45.out⟩ (fun hS=>?_);clear hK K;try simp only[zn]
  refine zr 9 rfl (fun K hK=>?_);try simp only[z1,z2,z3]
  go_simp;refine hK.out _ _ ⟨_,Ext.below cb _ (aB HB45.out (aA w5 (eP s)))⟩ (fun hS=>?_);clear hK K;try simp only[zn]
  have K2:=aB FT (aA w5 (eP s));have QW:=bY w5 (eP s);have tK:=xL.alloc (eP s);have hbs:=FT.size;generalize hw6:w5.alloc (eP s)=w6 at *;have hw6s:w6.heap.size=w5.heap.size+1:=by rw[<-hw6];simp
  have VT:=hb5.size;clear hb5 FT xL hw6;obtain⟨qa,qc,rfl⟩:=owns_form tK;refine wpAnyH_ready (rs:=[10]) aAN aAQ ?_;refine AllReadyH.cons rfl (fun K hK=>?_) AllReadyH.nil;refine step_append_lies w6 rfl _ _ 22 rfl (w4.drew.heap.size) 9 i0 (.string ByteArray.empty) 1 16 Tryz.underlying22 vA tM sY sX rfl aAM (.slice qa names.length qc) names.length (names.map Value.string) aBm tK ⟨w5.heap.size,0,none⟩ 1 1 [.string s] aBm rfl (World.news_of_block (cs:=#[.string s]) (t:=9) (fr:=(0,0)) QW) aA1 aAM aAY aAM (show w4.heap.size<=w6.heap.size by omega) w6.heap.size rfl ?_;intro g cap w7 BP sA sM hg7;have PO:Below w4.heap.size w4 w7:=K2.grown sA K2.size (fun k hk=>by have h:=(tK.lt k hk).1;try simp at h;omega);rw[<-BQ] at BP;have E3:=rowS_of_owns (l:=names++[s]) (by simpa using BP) (Nat.le_trans (show w4.heap.size<=w6.heap.size by omega) sA.size) QM;have E2:aL 1 cZ (iK cb (.slice q3 ET.code.length q4)) w7 (.slice (some ⟨g,0,none⟩) (names.length+1) cap) (names++[s]):=E3.moves aS (fun b hb _=>⟨UP.out.new (by have hb:w4.drew.heap.size<=b:=hb;try simp at hb;omega),fun _ _ h=>h⟩) aAO;exact YK
 skip;rw[if_pos aAN];try simp only[z1,z2,z3]
 go_simp;refine hK.out _ _ ⟨_,Ext.below cb _ (aB (aE w4) (aA w4.drew (eP s)))⟩ (fun hS=>?_);clear hK K;try simp only[zn]
 refine zr 6 rfl (fun K hK=>?_);try simp only[z1,z2,z3]
 go_simp;have FT:=aB (aE w4) (aA w4.drew (eP s));refine(clones_any names _ (w4.drew.alloc (eP s)) aAM (HN4.out.strs.later FT)).mono ?_;rintro e w6 ⟨vcl,rfl,tK,vI⟩;have K2:=aB FT vI;have SL:=zh K2;refine hK.out _ _ ⟨_,Ext.below cb _ SL.out⟩ (fun hS=>?_);clear hK K;try simp only[zn]
 have QW:w6.heap[w4.heap.size]? =some (eP s):=aD vI (bY w4.drew (eP s));have VT:=vI.size;clear FT vI;obtain⟨qa,qc,rfl⟩:=owns_form tK;refine wpAnyH_ready (rs:=[10]) aAN aAQ ?_;refine AllReadyH.cons rfl (fun K hK=>?_) AllReadyH.nil;refine step_append_lies w6 rfl _ _ 22 rfl ((w4.drew.alloc (eP s)).heap.size) 9 i0 (.string ByteArray.empty) 1 16 Tryz.underlying22 vA tM sY sX rfl aAM (.slice qa names.length qc) names.length (names.map Value.string) aBm tK ⟨w4.heap.size,0,none⟩ 1 1 [.string s] aBm rfl (World.news_of_block (cs:=#[.string s]) (t:=9) (fr:=(0,0)) QW) aA1 aAM aAY aAM VT w6.heap.size rfl ?_;intro g cap w7 BP sA sM hg7;have PO:Below w4.heap.size w4 w7:=K2.grown sA K2.size (fun k hk=>by have h:=(tK.lt k hk).1;try simp at h;omega);rw[<-BQ] at BP;have E3:=rowS_of_owns (l:=names++[s]) (by simpa using BP) (Nat.le_trans VT sA.size) QM;have E2:aL 1 cZ (iK cb (.slice q3 ET.code.length q4)) w7 (.slice (some ⟨g,0,none⟩) (names.length+1) cap) (names++[s]):=E3.moves aS (fun b hb _=>⟨UP.out.new (by have hb:(w4.drew.alloc (eP s)).heap.size<=b:=hb;try simp at hb;omega),fun _ _ h=>h⟩) aAO;exact YK
theorem aAB{p:Prop}(h:p:=by
 clear JK hg yW;go_enter Tryz.func198,Tryz.ntmps198;go_wp2_with fail;go_ret
 exact⟨aF aBk,aA _ _⟩):p:=h
def RightXpAt(d:Nat):Prop:=∀(x:Xp)(N:Nat->Prop)(op n:Int)(s m:bA)(vn va:Value)(w:World),d<=100->dL w->cJ N w x [.int .i64 op,.int .i64 n,.string s,.string m,vn,va]->
  Calls Tryz.prog 198 #[nS op n s m vn va,.int .i64 (d:Int)] w fun e w'=>e=.returned (.bool (aW d x))/\Below w.heap.size w w'
theorem rightExp_zero:RightXpAt 0:=by
  rintro⟨op',n',s',m',names,args⟩ N op n s m vn va w-hg he;have HR:Hid (aW 0 (.mk op' n' s' m' names args)=false):=zh rfl;obtain⟨⟨a1,n1,c1,rfl⟩,a2,n2,c2,rfl⟩:=mH he;clear he hg;go_enter Tryz.func198,Tryz.ntmps198;go_wp2_with fail;go_ret;exact⟨aF (by rw[HR.out]),aA _ _⟩
theorem rightExp_step(d:Nat)(IH:RightXpAt d):RightXpAt (d+1):=by
  rintro⟨op,n,s,m,names,args⟩ N op' n' s' m' vn va w hd hg he;have JK:=he;rw[bG] at he;obtain⟨v1,v2,e,hs,hm,hn,hr⟩:=he;cases e;have XH:=zh (fun x N op n s m vn va w h2 h3=>IH x N op n s m vn va w aAM h2 h3);have HG:=zh (fun W(hb:Below w.heap.size w W)=>hg.later hb);have HE0:=zh JK;have yW:((d+1:Nat):Int)=(d:Int)+1:=aAM;rw[yW];have hd0:((d:Int)+1==0)=false:=aAW;have hd1:(d:Int)<=100:=aAM;obtain⟨a1,c1,rfl,yQ,zR,-⟩:=hn;have hr':=hr;obtain⟨a2,c2,rfl,M9,VB,-⟩:=hr';have JH:args.length<=9223372036854775807:=aAM;have hlc:names.length<=9223372036854775807:=aAM;by_cases h0:0<=op
  ·by_cases h1:op<19
   ·have HR:Hid (aW (d+1) (.mk op n s m names args)=((decide (pV op names.length<0)||decide (pV op names.length=args.length))&&decide (cleanN op n=n)&&decide (cleanS op s=s)&&decide (cleanM op m=m)&&decide ((if op=13 then names.length else 0)=names.length)&&iW (.mk op n s m names args)&&args.all (aW d))):=zh (by
     rw[aW,cleanX_eq op n s m names args h0 h1,decide_eq_true h0,decide_eq_true h1];simp only[Bool.true_and];congr 4
     by_cases h:op=13<;>simp[h])
    have CA:=zh (fun W=>clean_any op n s m a1 names.length c1 a2 args.length c2 W h0 h1);unfold CleanSays at CA;have HLf:=zh (fun W(hb:Below w.heap.size w W)=>leaf_any op n s m names args N _ _ W h0 h1 (HG.out W hb) (aG _ _ _ _ _ _ (bU.later hb) JK));unfold gB at HLf;have g0:¬op<0:=aAM;have g1:¬19<=op:=aAM;generalize cleanN op n=cN at CA HR;generalize cleanS op s=cS at CA HR;generalize cleanM op m=cM at CA HR;generalize pV op names.length=cC at CA HR;generalize (if op=13 then names.length else 0)=k3 at CA HR;generalize iW (.mk op n s m names args)=lf at HLf HR;clear JK hg yW;by_cases hA:cC<0\/cC=args.length
    ·(have RP:(decide (cC<0)||decide (cC=args.length))=true:=by rcases hA with h|h<;>simp[h]);rw[RP,Bool.true_and] at HR;by_cases hB:cN=n
     ·(have hB':(cN != n)=false:=by rw[bne_eq_false_iff_eq];exact hB);rw[decide_eq_true hB,Bool.true_and] at HR;by_cases hC:cS=s
      ·(have hC':(cS.toList==s.toList)=true:=by rw[bI];exact decide_eq_true hC);rw[decide_eq_true hC,Bool.true_and] at HR;by_cases hD:cM=m
       ·(have hD':(cM.toList==m.toList)=true:=by rw[bI];exact decide_eq_true hD);rw[decide_eq_true hD,Bool.true_and] at HR;by_cases hE:k3=names.length
        ·(have hE':((k3:Int) != (names.length:Int))=false:=by rw[bne_eq_false_iff_eq];omega);rw[decide_eq_true hE,Bool.true_and] at HR;clear hB hC hD hE RP;rcases hA with hA|hA
         focus
          have BW:¬0<=cC:=aAM;have hA2:cC<0:=hA
         rotate_left
         focus
          have BW:0<=cC:=aAM;have hA1:(cC != (args.length:Int))=false:=aBE;clear hA
         all_goals
          cases lf with
          |false=>
           have HF:Hid (aW (d+1) (.mk op n s m names args)=false):=zh aBr;go_enter Tryz.func198,Tryz.ntmps198;go_wp2_with(first|(go_at_call 225;refine(HLf.out _ sW.out).mono ?_;rintro e w4 ⟨rfl,yM⟩;obtain⟨⟨u0,u1,u2,u3,u4,u5⟩,-⟩:=bx6 (aD yM uS.out))|(go_at_call 224;refine(CA.out (w.alloc (aQ op n s m a1 names.length c1 a2 args.length c2))).mono ?_;rintro e w2 ⟨a3,n3,c3,rfl,rfl,sD⟩;have sW:=zh (aB (aB (aA w (aQ op n s m a1 names.length c1 a2 args.length c2)) sD) (aA w2 (aQ op cN cS cM a3 n3 c3 a2 args.length c2)));have uS:=zh (aD (aB sD (aA w2 (aQ op cN cS cM a3 n3 c3 a2 args.length c2))) (bY w (aQ op n s m a1 names.length c1 a2 args.length c2)));obtain⟨⟨t0,t1,t2,t3,t4,t5⟩,-⟩:=bx6 uS.out));go_ret;exact⟨aF aBk,aB sW.out yM⟩
          |true=>
           have HS0:Hid (aW (d+1) (.mk op n s m names args)=args.all (aW d)):=zh aBr;have QU:=hr.cases aAO;clear HR hr;rcases QU with⟨KJ,a',c',hv⟩|⟨b,o,c',hv,h0',h1',LS,hb,hN,hc⟩
           ·have HN0:Hid (args.length=0):=zh (by rw[KJ];rfl);clear hv KJ;go_enter Tryz.func198,Tryz.ntmps198;go_wp2_with(first|(go_at_call 225;refine(HLf.out _ sW.out).mono ?_;rintro e w4 ⟨rfl,yM⟩;obtain⟨⟨u0,u1,u2,u3,u4,u5⟩,-⟩:=bx6 (aD yM uS.out))|(go_at_call 224;refine(CA.out (w.alloc (aQ op n s m a1 names.length c1 a2 args.length c2))).mono ?_;rintro e w2 ⟨a3,n3,c3,rfl,rfl,sD⟩;have sW:=zh (aB (aB (aA w (aQ op n s m a1 names.length c1 a2 args.length c2)) sD) (aA w2 (aQ op cN cS cM a3 n3 c3 a2 args.length c2)));have uS:=zh (aD (aB sD (aA w2 (aQ op cN cS cM a3 n3 c3 a2 args.length c2))) (bY w (aQ op n s m a1 names.length c1 a2 args.length c2)));obtain⟨⟨t0,t1,t2,t3,t4,t5⟩,-⟩:=bx6 uS.out));have xJ:=zh (aB sW.out yM);(go_loopw [73] (fun iv wr=>iv=.int .i64 0/\Hid (Below w.heap.size w wr)) (fun _ _=>0));case atStart=>exact⟨rfl,xJ⟩
            case round=>
             obtain⟨rfl,HB⟩:=hrel;(have uQ:¬(0:Int)<(args.length:Int):=by have:=HN0.out;omega);go_wp2_with fail;go_ret;exact⟨aF (by rw[HS0.out,List.eq_nil_of_length_eq_zero HN0.out];rfl),HB.out⟩
           cases hv;have HC:=zh hc;clear hc;go_enter Tryz.func198,Tryz.ntmps198;go_wp2_with(first|(go_at_call 225;refine(HLf.out _ sW.out).mono ?_;rintro e w4 ⟨rfl,yM⟩;obtain⟨⟨u0,u1,u2,u3,u4,u5⟩,-⟩:=bx6 (aD yM uS.out))|(go_at_call 224;refine(CA.out (w.alloc (aQ op n s m a1 names.length c1 (some ⟨b,o,none⟩) args.length c2))).mono ?_;rintro e w2 ⟨a3,n3,c3,rfl,rfl,sD⟩;have sW:=zh (aB (aB (aA w (aQ op n s m a1 names.length c1 (some ⟨b,o,none⟩) args.length c2)) sD) (aA w2 (aQ op cN cS cM a3 n3 c3 (some ⟨b,o,none⟩) args.length c2)));have uS:=zh (aD (aB sD (aA w2 (aQ op cN cS cM a3 n3 c3 (some ⟨b,o,none⟩) args.length c2))) (bY w (aQ op n s m a1 names.length c1 (some ⟨b,o,none⟩) args.length c2)));obtain⟨⟨t0,t1,t2,t3,t4,t5⟩,-⟩:=bx6 uS.out));have xJ:=zh (aB sW.out yM);clear yM sD sW t0 t1 t2 t3 t4 t5 u0 u1 u2 u3 u4 u5 CA HLf;(go_loopw [73] (fun iv wr=>∃q:Nat,q<=args.length/\iv=.int .i64 (q:Int)/\Hid (Below w.heap.size w wr)/\Hid (aW (d+1) (.mk op n s m names args)=(args.drop q).all (aW d))) (fun iv _=>args.length-(intOf iv).toNat));case atStart=>exact⟨0,Nat.zero_le _,rfl,xJ,HS0⟩
           case round=>
            obtain⟨q,hq,rfl,HB,sK⟩:=hrel;(rename World=>wr);by_cases sE:q<args.length
            ·obtain⟨x,hx,-⟩:=getElem?_of_lt sE;obtain⟨cs,wB,-,hj⟩:=HC.out q x hx;have vQ:=zh (sK.out.trans (all_at hx))
             cases x with
             |mk xI n2 s2 m2 names2 args2=>
              have yE:=wB;rw[bG] at yE;obtain⟨J2,va2,rfl,-,-,yC,yB⟩:=yE;obtain⟨a3',T5,rfl,-⟩:=yC;obtain⟨a4',cc2,rfl,-⟩:=yB;have p0:wr.cell? ⟨b,o+q*6,none⟩=some (.int .i64 xI):=aC HB.out (hj 0 _ rfl);have p1:=aC HB.out (hj 1 _ rfl);have p2:=aC HB.out (hj 2 _ rfl);have p3:=aC HB.out (hj 3 _ rfl);have p4:=aC HB.out (hj 4 _ rfl);have p5:=aC HB.out (hj 5 _ rfl);have HL:=zh (fun W(h:Below w.heap.size w W)=>XH.out (.mk xI n2 s2 m2 names2 args2) N xI n2 s2 m2 _ _ W (HG.out W h) (aG _ _ _ _ _ _ (bU.later h) wB));clear hj wB hx;generalize aW d (.mk xI n2 s2 m2 names2 args2)=r0 at HL vQ;generalize names2.length=ln at *;generalize args2.length=la at *
              cases r0 with
              |false=>
               have HF:Hid (aW (d+1) (.mk op n s m names args)=false):=zh (by rw[vQ.out];rfl);clear vQ sK;go_wp2_with(go_at_call 198;refine(HL.out _ (aB HB.out (aA _ _))).mono ?_;rintro e w1 ⟨rfl,sF⟩);go_ret;exact⟨aF aBk,aB HB.out (aB (aA _ _) sF)⟩
              |true=>
               have xS:Hid (aW (d+1) (.mk op n s m names args)=(args.drop (q+1)).all (aW d)):=zh (by rw[vQ.out];rfl);clear vQ sK;go_wp2_with(go_at_call 198;refine(HL.out _ (aB HB.out (aA _ _))).mono ?_;rintro e w1 ⟨rfl,sF⟩);exact aAu
            have AR:q=args.length:=aAM;have HT:Hid (aW (d+1) (.mk op n s m names args)=true):=zh aBW;go_wp2_with fail;go_ret;exact⟨aF (by rw[HT.out]),HB.out⟩
        have hE':((k3:Int) != (names.length:Int))=true:=aDa;have HF:Hid (aW (d+1) (.mk op n s m names args)=false):=zh (by rw[HR.out,Qb hE];rfl);clear hB hC hD hE RP;rcases hA with hA|hA
        focus
         have BW:¬0<=cC:=aAM;have hA2:cC<0:=hA
        rotate_left
        focus
         have BW:0<=cC:=aAM;have hA1:(cC != (args.length:Int))=false:=aBE;clear hA
        all_goals
         go_enter Tryz.func198,Tryz.ntmps198;go_wp2_with(go_at_call 224;refine(CA.out (w.alloc (aQ op n s m a1 names.length c1 a2 args.length c2))).mono ?_;rintro e w2 ⟨a3,n3,c3,rfl,rfl,sD⟩;have sW:=zh (aB (aB (aA w (aQ op n s m a1 names.length c1 a2 args.length c2)) sD) (aA w2 (aQ op cN cS cM a3 n3 c3 a2 args.length c2)));have uS:=zh (aD (aB sD (aA w2 (aQ op cN cS cM a3 n3 c3 a2 args.length c2))) (bY w (aQ op n s m a1 names.length c1 a2 args.length c2)));obtain⟨⟨t0,t1,t2,t3,t4,t5⟩,-⟩:=bx6 uS.out);go_ret;exact⟨aF aBk,sW.out⟩
       (have hD':(cM.toList==m.toList)=false:=by rw[bI];exact Qb hD);have HF:Hid (aW (d+1) (.mk op n s m names args)=false):=zh (by rw[HR.out,Qb hD];rfl);clear hB hC hD RP;rcases hA with hA|hA
       focus
        have BW:¬0<=cC:=aAM;have hA2:cC<0:=hA
       rotate_left
       focus
        have BW:0<=cC:=aAM;have hA1:(cC != (args.length:Int))=false:=aBE;clear hA
       all_goals
        go_enter Tryz.func198,Tryz.ntmps198;go_wp2_with(go_at_call 224;refine(CA.out (w.alloc (aQ op n s m a1 names.length c1 a2 args.length c2))).mono ?_;rintro e w2 ⟨a3,n3,c3,rfl,rfl,sD⟩;have sW:=zh (aB (aB (aA w (aQ op n s m a1 names.length c1 a2 args.length c2)) sD) (aA w2 (aQ op cN cS cM a3 n3 c3 a2 args.length c2)));have uS:=zh (aD (aB sD (aA w2 (aQ op cN cS cM a3 n3 c3 a2 args.length c2))) (bY w (aQ op n s m a1 names.length c1 a2 args.length c2)));obtain⟨⟨t0,t1,t2,t3,t4,t5⟩,-⟩:=bx6 uS.out);go_ret;exact⟨aF aBk,sW.out⟩
      (have hC':(cS.toList==s.toList)=false:=by rw[bI];exact Qb hC);have HF:Hid (aW (d+1) (.mk op n s m names args)=false):=zh (by rw[HR.out,Qb hC];rfl);clear hB hC RP;rcases hA with hA|hA
      focus
       have BW:¬0<=cC:=aAM;have hA2:cC<0:=hA
      rotate_left
      focus
       have BW:0<=cC:=aAM;have hA1:(cC != (args.length:Int))=false:=aBE;clear hA
      all_goals
       go_enter Tryz.func198,Tryz.ntmps198;go_wp2_with(go_at_call 224;refine(CA.out (w.alloc (aQ op n s m a1 names.length c1 a2 args.length c2))).mono ?_;rintro e w2 ⟨a3,n3,c3,rfl,rfl,sD⟩;have sW:=zh (aB (aB (aA w (aQ op n s m a1 names.length c1 a2 args.length c2)) sD) (aA w2 (aQ op cN cS cM a3 n3 c3 a2 args.length c2)));have uS:=zh (aD (aB sD (aA w2 (aQ op cN cS cM a3 n3 c3 a2 args.length c2))) (bY w (aQ op n s m a1 names.length c1 a2 args.length c2)));obtain⟨⟨t0,t1,t2,t3,t4,t5⟩,-⟩:=bx6 uS.out);go_ret;exact⟨aF aBk,sW.out⟩
     (have hB':(cN != n)=true:=by rw[bne_iff_ne];exact hB);have HF:Hid (aW (d+1) (.mk op n s m names args)=false):=zh (by rw[HR.out,Qb hB];rfl);clear hB RP;rcases hA with hA|hA
     focus
      have BW:¬0<=cC:=aAM;have hA2:cC<0:=hA
     rotate_left
     focus
      have BW:0<=cC:=aAM;have hA1:(cC != (args.length:Int))=false:=aBE;clear hA
     all_goals
      go_enter Tryz.func198,Tryz.ntmps198;go_wp2_with(go_at_call 224;refine(CA.out (w.alloc (aQ op n s m a1 names.length c1 a2 args.length c2))).mono ?_;rintro e w2 ⟨a3,n3,c3,rfl,rfl,sD⟩;have sW:=zh (aB (aB (aA w (aQ op n s m a1 names.length c1 a2 args.length c2)) sD) (aA w2 (aQ op cN cS cM a3 n3 c3 a2 args.length c2)));have uS:=zh (aD (aB sD (aA w2 (aQ op cN cS cM a3 n3 c3 a2 args.length c2))) (bY w (aQ op n s m a1 names.length c1 a2 args.length c2)));obtain⟨⟨t0,t1,t2,t3,t4,t5⟩,-⟩:=bx6 uS.out);go_ret;exact⟨aF aBk,sW.out⟩
    have BW:0<=cC:=aAM;have hA1:(cC != (args.length:Int))=true:=aDa;have HF:Hid (aW (d+1) (.mk op n s m names args)=false):=zh (by rw[HR.out,Qb (fun h=>hA (.inl h)),Qb (fun h=>hA (.inr h))];rfl);clear hA;go_enter Tryz.func198,Tryz.ntmps198;go_wp2_with(go_at_call 224;refine(CA.out (w.alloc (aQ op n s m a1 names.length c1 a2 args.length c2))).mono ?_;rintro e w2 ⟨a3,n3,c3,rfl,rfl,sD⟩;have sW:=zh (aB (aB (aA w (aQ op n s m a1 names.length c1 a2 args.length c2)) sD) (aA w2 (aQ op cN cS cM a3 n3 c3 a2 args.length c2)));have uS:=zh (aD (aB sD (aA w2 (aQ op cN cS cM a3 n3 c3 a2 args.length c2))) (bY w (aQ op n s m a1 names.length c1 a2 args.length c2)));obtain⟨⟨t0,t1,t2,t3,t4,t5⟩,-⟩:=bx6 uS.out);go_ret;exact⟨aF aBk,sW.out⟩
   have HF:Hid (aW (d+1) (.mk op n s m names args)=false):=zh (by rw[aW,Qb h1];simp);have g0:¬op<0:=aAM;have g1:19<=op:=aAM;exact aAB
  have HF:Hid (aW (d+1) (.mk op n s m names args)=false):=zh (by rw[aW,Qb h0];simp);have g0:op<0:=aAM;exact aAB
theorem oF:RightXpAll:=fun d=>by
 induction d with
 |zero=>exact rightExp_zero
 |succ d ih=>exact rightExp_step d ih
end Go.Proofs.YtacgopankhpnbaaGreatDoor
