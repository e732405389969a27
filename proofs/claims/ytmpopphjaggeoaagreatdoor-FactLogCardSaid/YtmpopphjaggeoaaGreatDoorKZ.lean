/- Texts of this seat, joined. -/
import Derived.Test.YtmpopphjaggeoaaGreatDoorKY
import Derived.Laws.CopyOwn
set_option maxHeartbeats 16000000
set_option maxRecDepth 100000
set_option linter.unusedVariables false
set_option linter.unusedSimpArgs false
set_option linter.constructorNameAsVariable false
namespace Go.Proofs.YtmpopphjaggeoaaGreatDoor
open Go.RowKit Go.Shelf
def sR:bA:=⟨#[41]⟩
def eC(x y t:Value):List Value:=List.replicate 40 (.slice none 0 0)++[x,y]++List.replicate 214 (.slice none 0 0)++[t]
theorem tab_len(x y t:Value):(eC x y t).length=257:=by
 simp only[eC,List.length_append,List.length_replicate,List.length_cons,List.length_nil]
theorem tab_pre(x y:Value):(List.replicate 40 (Value.slice none 0 0)++[x,y]++List.replicate 214 (Value.slice none 0 0)).length=256:=by
 simp only[List.length_append,List.length_replicate,List.length_cons,List.length_nil]
theorem tab_40(x y t u:Value):(eC x y t).set 40 u=eC u y t:=rfl
theorem tab_41(x y t u:Value):(eC x y t).set 41 u=eC x u t:=rfl
theorem tab_256(x y t u:Value):(eC x y t).set 256 u=eC x y u:=by
 unfold eC;rw[List.set_append_right _ _ (by rw[tab_pre];exact Nat.le_refl _),tab_pre];rfl
theorem gK(x y t:Value):(eC x y t)[40]? =some x:=rfl
theorem gJ(x y t:Value):(eC x y t)[41]? =some y:=rfl
theorem gG(x y t:Value):(eC x y t)[256]? =some t:=by
 unfold eC;rw[List.getElem?_append_right (by rw[tab_pre];exact Nat.le_refl _),tab_pre];rfl
theorem tab_at(x y t:Value)(j:Nat)(h:j<256)(h0:j≠40)(h1:j≠41):(eC x y t)[j]? =some (.slice none 0 0):=by
 unfold eC;by_cases hj:j<40
 ·rw[List.append_assoc,List.append_assoc,List.getElem?_append_left FM,List.getElem?_replicate,if_pos hj]
 rw[List.append_assoc,List.append_assoc,List.getElem?_append_right (by simp only[List.length_replicate];omega),List.getElem?_append_right (by simp only[List.length_replicate,List.length_cons,List.length_nil];omega),List.getElem?_append_left EP,List.getElem?_replicate,if_pos EP]
theorem tab_one{x y t:Value}(hx:x.oneCell'=true)(hy:y.oneCell'=true)(ht:t.oneCell'=true):(eC x y t).toArray.all (·.oneCell')=true:=by
 rw[Array.all_eq_true_iff_forall_mem];intro v hv;rw[List.mem_toArray] at hv;unfold eC at hv;simp only[List.mem_append,List.mem_replicate,List.mem_cons,List.not_mem_nil,or_false] at hv;rcases hv with((⟨-,rfl⟩|rfl|rfl)|⟨-,rfl⟩)|rfl
 ·rfl
 ·exact hx
 ·exact hy
 ·rfl
 exact ht
theorem tab_zero(w:World):(zeroValue 305).run Tryz.prog w=.ok (.agg (eC (.slice none 0 0) (.slice none 0 0) (.slice none 0 0)).toArray) w:=CQ
def Byt(B:Nat)(W:World)(v:Value)(s:bA):Prop:=∃a c fr,v=.slice (some ⟨a,0,none⟩) s.size c/\B<=a/\W.heap[a]? =some (.cells (bytesRow s c) 5 fr)
theorem Byt.up{B:Nat}{W W':World}{v:Value}{s:bA}(h:Byt B W v s)(hw:∀k o,B<=k->W.heap[k]? =some o->(∃c fr,o=.cells (bytesRow s c) 5 fr)->W'.heap[k]? =some o):Byt B W' v s:=by
 obtain⟨a,c,fr,rfl,hB,ha⟩:=h;exact⟨a,c,fr,rfl,hB,hw a _ hB ha ⟨c,fr,rfl⟩⟩
def rls:Nat->List Value
 |0=>[]
 |1=>[.string ⟨#[41]⟩]
 |_=>[.string ⟨#[41]⟩,.string ⟨#[40]⟩]
structure RS (B:Nat) (w0:World) (g q:Nat) (x y:Value) (k:Nat) (W:World):Prop where
 bel:Below B w0 W
 tab:W.heap[g]? =some (.cells (eC x y (.slice (some ⟨q,0,none⟩) k 2)).toArray 305)
 own:W.ownsRow B 9 1 (.slice (some ⟨q,0,none⟩) k 2) k (rls k)
 gB:B<=g
 gq:g≠q
 one:(eC x y (.slice (some ⟨q,0,none⟩) k 2)).toArray.all (·.oneCell')=true
theorem make_str2(w:World):(Instr.makeSlice 26 (.int .i64 0) (.int .i64 2)).run Tryz.prog w=.ok (.slice (some ⟨w.heap.size,0,none⟩) 0 2) (w.alloc (.cells (madeCells #[.string ByteArray.empty] 2) 9)):=by
 obtain⟨i0,oN,pY,lF,nO⟩:=info_parts strInfo;have:=run_make (P:=Tryz.prog) w 26 9 i0 _ Tryz.underlying26 oN pY .i64 .i64 0 2 CR CR (by rw[nO];omega) CR;rw[this,lF];rfl
theorem own_heap{W W':World}{B g n cap s:Nat}{e:TypeId}{xs:List Value}(h:W.ownsRow B e s (.slice (some ⟨g,0,none⟩) n cap) n xs)(hw:W'.heap[g]? =W.heap[g]?):W'.ownsRow B e s (.slice (some ⟨g,0,none⟩) n cap) n xs:=by
 refine⟨h.1,?_⟩;rcases h.2 with⟨hn,-⟩|⟨g',cap',cur,hv,hb,qS,rest⟩
 ·cases hn
 cases hv;exact .inr ⟨g,cap,cur,rfl,hb,by rw[hw];exact qS,rest⟩
theorem byt_of(W:World)(s:bA)(B:Nat)(hB:B<=W.heap.size):∃v W',(convert 9 127 (.string s)).run Tryz.prog W=.ok v W'/\Below W.heap.size W W'/\Byt B W' v s/\(∃a c,v=.slice (some ⟨a,0,none⟩) s.size c):=by
 refine⟨_,_,run_bytes_of_string W 9 127 5 s Tryz.underlying9 Tryz.underlying127 Tryz.underlying5,(Below.refl _ W).drew.alloc (Nat.le_refl _) _,⟨W.heap.size,_,_,rfl,hB,bY W.drew _⟩,⟨_,_,rfl⟩⟩
theorem news_one{W:World}{b:Nat}{v:Value}(h:W.cell? ⟨b,0,none⟩=some v):∀(j:Nat)(u:Value),[v][j]? =some u->W.cell? ((⟨b,0,none⟩:Addr).add j)=some u:=by
 intro j u hj
 match j,hj with
 |0,hj=>cases hj;exact h
theorem one_back(wr:World)(u:UInt8)(n:Int)(hn:(u.toNat:Int)=n):(convert 127 9 (.slice (some ⟨wr.heap.size,0,none⟩) 1 1)).run Tryz.prog (wr.alloc (.cells #[.int .u8 n] 5))=.ok (.string ⟨#[u]⟩) (wr.alloc (.cells #[.int .u8 n] 5)):=by
 subst hn
 exact run_convert_bytes_back (P:=Tryz.prog) _ 127 9 5 ⟨wr.heap.size,0,none⟩ 1 [u] Tryz.underlying127 Tryz.underlying5 Tryz.underlying9 (fun j hj=>by
  obtain rfl:j=0:=FM
  exact(aH (bY wr _) 0 rfl).1)
theorem RS.step{B:Nat}{w0:World}{g q:Nat}{x y:Value}{k:Nat}{wr:World}(h:RS B w0 g q x y k wr){o1 o2:Obj}{w9:World}{xs:List Value}
  (jY:w9.ownsRow B 9 1 (.slice (some ⟨q,0,none⟩) (k+1) 2) (k+1) xs) (hx:xs=rls (k+1)) (hg:((wr.alloc o1).alloc o2).grownBy w9 (some q)):
  RS B w0 g q x y (k+1) (w9.setCell ⟨g,256,none⟩ (.slice (some ⟨q,0,none⟩) (k+1) 2))/\(∀j,j<wr.heap.size->j≠q->j≠g->(w9.setCell ⟨g,256,none⟩ (.slice (some ⟨q,0,none⟩) (k+1) 2)).heap[j]? =wr.heap[j]?)/\wr.heap.size<=(w9.setCell ⟨g,256,none⟩ (.slice (some ⟨q,0,none⟩) (k+1) 2)).heap.size
   /\w9.cell? ⟨g,256,none⟩=some (.slice (some ⟨q,0,none⟩) k 2)/\w9.frozen? ⟨g,256,none⟩=false:=by
 subst hx;have hgl:g<wr.heap.size:=(Array.getElem?_eq_some_iff.1 h.tab).1;obtain⟨qL,qK⟩:=h.own.lt q rfl;have e8:∀j,j<wr.heap.size->((wr.alloc o1).alloc o2).heap[j]? =wr.heap[j]? :=fun j hj=>(Below.heap_alloc _ _ _ DC).trans (Below.heap_alloc _ _ _ hj);have e9:∀j,j<wr.heap.size->j≠q->w9.heap[j]? =wr.heap[j]? :=fun j hj kQ=>(hg.block j DC (by simpa using kQ)).trans (e8 j hj);have t9:=(e9 g hgl h.gq).trans h.tab;have rF:Below B w0 ((wr.alloc o1).alloc o2):=(h.bel.alloc CR _).alloc DC _;have nW:Below B w0 w9:=rF.grown hg DC (fun j hj=>by cases hj;exact qL);refine⟨⟨nW.setCell h.gB _,?_,own_heap jY (Below.heap_setCell _ _ _ _ FL),h.gB,h.gq,?_⟩,fun j hj h1 h2=>(Below.heap_setCell _ _ _ _ (by simpa using h2)).trans (e9 j hj h1),?_,?_,?_⟩
 ·rw[aG t9,List.setIfInBounds_toArray,tab_256]
 ·have:=h.one;rw[Array.all_eq_true_iff_forall_mem] at this ⊢;intro v hv;rw[List.mem_toArray] at hv;rw[<-tab_256 x y (.slice (some ⟨q,0,none⟩) k 2)] at hv;rcases List.mem_or_eq_of_mem_set hv with hv|rfl
  ·exact this v (by simpa using hv)
  rfl
 ·have:=hg.size;simp[World.setCell] at this ⊢;omega
 ·exact(aH t9 256 (by rw[List.getElem?_toArray,gG])).1
 exact(aH t9 256 (by rw[List.getElem?_toArray,gG])).2
theorem byt_keep{B:Nat}{wr w0 W10 W11:World}{g q k o:Nat}{x y z v:Value}{s:bA}(hY:Byt B wr z s)(h:RS B w0 g q x y k wr)(qH:∀j,j<wr.heap.size->j≠q->j≠g->W10.heap[j]? =wr.heap[j]?)(hs:wr.heap.size<=W10.heap.size)
  (hb:Below W10.heap.size W10 W11):Byt B (W11.setCell ⟨g,o,none⟩ v) z s:=by
 obtain⟨a,c,fr,rfl,hB,ha⟩:=hY;have hal:=(Array.getElem?_eq_some_iff.1 ha).1
 have hag:a≠g:=by
  rintro rfl;have e:=h.tab;rw[ha] at e;obtain⟨-,e2,-⟩:=Obj.cells.inj (Option.some.inj e);exact absurd e2 CX
 have haq:a≠q:=by
  rintro rfl;rcases h.own.2 with⟨hn,-⟩|⟨g',cap',cur,hv,-,qS,-⟩
  ·cases hn
  cases hv;rw[ha] at qS;obtain⟨-,e2,-⟩:=Obj.cells.inj (Option.some.inj qS);exact absurd e2 CX
 exact⟨a,c,fr,rfl,hB,(Below.heap_setCell _ _ _ _ (by simpa using hag)).trans ((hb.block a CR).trans ((qH a hal haq hag).trans ha))⟩
theorem RS.put41{B:Nat}{w0:World}{g q:Nat}{x y:Value}{k:Nat}{wr W:World}(h:RS B w0 g q x y k wr)(hb:Below wr.heap.size wr W){v:Value}(h1:v.oneCell'=true):
  RS B w0 g q x v k (W.setCell ⟨g,41,none⟩ v)/\W.cell? ⟨g,41,none⟩=some y/\W.frozen? ⟨g,41,none⟩=false:=by
 have hgl:g<wr.heap.size:=(Array.getElem?_eq_some_iff.1 h.tab).1;obtain⟨qL,qK⟩:=h.own.lt q rfl;have t9:=(hb.block g hgl).trans h.tab;refine⟨⟨(h.bel.trans (hb.mono (by have:=h.gB;omega))).setCell h.gB _,?_,own_heap h.own ((Below.heap_setCell _ _ _ _ FL).trans (hb.block q qK)),h.gB,h.gq,?_⟩,?_,?_⟩
 ·rw[aG t9,List.setIfInBounds_toArray,tab_41]
 ·have:=h.one;rw[Array.all_eq_true_iff_forall_mem] at this ⊢;intro z hz;rw[List.mem_toArray] at hz;rw[<-tab_41 x y] at hz;rcases List.mem_or_eq_of_mem_set hz with hz|rfl
  ·exact this z (by simpa using hz)
  exact h1
 ·exact(aH t9 41 (by rw[List.getElem?_toArray,gJ])).1
 exact(aH t9 41 (by rw[List.getElem?_toArray,gJ])).2
theorem RS.put40{B:Nat}{w0:World}{g q:Nat}{x y:Value}{k:Nat}{wr W:World}(h:RS B w0 g q x y k wr)(hb:Below wr.heap.size wr W){v:Value}(h1:v.oneCell'=true):
  RS B w0 g q v y k (W.setCell ⟨g,40,none⟩ v)/\W.cell? ⟨g,40,none⟩=some x/\W.frozen? ⟨g,40,none⟩=false:=by
 have hgl:g<wr.heap.size:=(Array.getElem?_eq_some_iff.1 h.tab).1;obtain⟨qL,qK⟩:=h.own.lt q rfl;have t9:=(hb.block g hgl).trans h.tab;refine⟨⟨(h.bel.trans (hb.mono (by have:=h.gB;omega))).setCell h.gB _,?_,own_heap h.own ((Below.heap_setCell _ _ _ _ FL).trans (hb.block q qK)),h.gB,h.gq,?_⟩,?_,?_⟩
 ·rw[aG t9,List.setIfInBounds_toArray,tab_40]
 ·have:=h.one;rw[Array.all_eq_true_iff_forall_mem] at this ⊢;intro z hz;rw[List.mem_toArray] at hz;rw[<-tab_40 x y] at hz;rcases List.mem_or_eq_of_mem_set hz with hz|rfl
  ·exact this z (by simpa using hz)
  exact h1
 ·exact(aH t9 40 (by rw[List.getElem?_toArray,gK])).1
 exact(aH t9 40 (by rw[List.getElem?_toArray,gK])).2
def tabW(w:World):World:=((w.alloc (.cells (madeCells #[.string ByteArray.empty] 2) 9)).alloc (.cells (eC (.slice none 0 0) (.slice none 0 0) (.slice none 0 0)).toArray 305)).setRow (w.heap.size+1) (eC (.slice none 0 0) (.slice none 0 0) (.slice (some ⟨w.heap.size,0,none⟩) 0 2)).toArray
theorem tab_store(w:World):(storeCells ⟨w.heap.size+1,0,none⟩ ((eC (.slice none 0 0) (.slice none 0 0) (.slice none 0 0)).set 256 (.slice (some ⟨w.heap.size,0,none⟩) 0 2))).run Tryz.prog
  ((w.alloc (.cells (madeCells #[.string ByteArray.empty] 2) 9)).alloc (.cells (eC (.slice none 0 0) (.slice none 0 0) (.slice none 0 0)).toArray 305))=.ok () (tabW w):=by
 rw[tab_256];have hg:=bY (w.alloc (.cells (madeCells #[.string ByteArray.empty] 2) 9)) (.cells (eC (.slice none 0 0) (.slice none 0 0) (.slice none 0 0)).toArray 305);have hz:(w.alloc (.cells (madeCells #[.string ByteArray.empty] 2) 9)).heap.size=w.heap.size+1:=C0;rw[hz] at hg
 exact run_storeCells_from (P:=Tryz.prog) (w.heap.size+1) 305 (eC (.slice none 0 0) (.slice none 0 0) (.slice (some ⟨w.heap.size,0,none⟩) 0 2)) 0 _ _ hg (by rw[tab_len,List.size_toArray,tab_len])
  (fun v hv=>(Array.all_eq_true_iff_forall_mem.1 (tab_one rfl rfl rfl)) v (by simpa using hv))
theorem tab_rs(w:World):RS w.heap.size w (w.heap.size+1) w.heap.size (.slice none 0 0) (.slice none 0 0) 0 (tabW w):=by
 have hz:(w.alloc (.cells (madeCells #[.string ByteArray.empty] 2) 9)).heap.size=w.heap.size+1:=C0;have hg:=bY (w.alloc (.cells (madeCells #[.string ByteArray.empty] 2) 9)) (.cells (eC (.slice none 0 0) (.slice none 0 0) (.slice none 0 0)).toArray 305);rw[hz] at hg;have jP:=((Below.refl w.heap.size w).alloc (Nat.le_refl _) (.cells (madeCells #[.string ByteArray.empty] 2) 9)).alloc (by rw[hz];omega) (.cells (eC (.slice none 0 0) (.slice none 0 0) (.slice none 0 0)).toArray 305);refine⟨below_setRow jP CR _,setRow_heap _ _ _ _ _ _ hg,?_,CR,CR,tab_one rfl rfl rfl⟩;have h1:=World.ownsRow_made (base:=w.heap.size) (e:=9) (size:=1) w (madeCells #[.string ByteArray.empty] 2) 2 (Nat.le_refl _) CX (by simp[madeCells]);exact own_heap (h1.alloc _) (setRow_other _ _ _ _ CR)
theorem rbuild_any(b bo oo c:Nat)(x0 x1 x2 x3:Value)(w:World)(hr:w.heap[b]? =some (.cells #[x0,x1,x2,x3,.slice (some ⟨bo,oo,none⟩) 4 c] 243))
  (s0:w.cell? ⟨bo,oo,none⟩=some (.string ⟨#[40]⟩)) (s1:w.cell? ⟨bo,oo+1,none⟩=some (.string ⟨#[32,40,32]⟩)) (s2:w.cell? ⟨bo,oo+2,none⟩=some (.string ⟨#[41]⟩)) (s3:w.cell? ⟨bo,oo+3,none⟩=some (.string ⟨#[32,41,32]⟩)):
  Calls Tryz.prog 215 #[.pointer (some ⟨b,0,none⟩)] w fun e w'=>∃g q x y,e=.returned (.iface 306 (.pointer (some ⟨g,0,none⟩)))/\RS w.heap.size w g q x y 2 w'/\Byt w.heap.size w' x ⟨#[32,40,32]⟩/\Byt w.heap.size w' y ⟨#[32,41,32]⟩:=by
 have rJ:IntKind.i64.wrap (0+1)=1:=rfl;have hw2:IntKind.i64.wrap (0+2)=2:=rfl;have tL:IntKind.i64.wrap (2+1)=3:=rfl;have yS:IntKind.i64.wrap (2+2)=4:=rfl;have hmk:=make_str2;obtain⟨i0,oN,pY,lF,nO⟩:=info_parts strInfo;have hzz:=tab_zero;have hq8:∀(w:World)(a:Option Addr)(n c n' c':Nat),(binOp .eql 127 (.slice a n c) (.slice none n' c')).run Tryz.prog w=.ok (.bool a.isNone) w:=fun w a n c n' c'=>Lib.run_eql_slice_nil w _ _ a n c n' c' Tryz.underlying127;have hst:=tab_store w;have hb41:∀(h:0<(ByteArray.mk #[41]).size),((ByteArray.mk #[41])[0]'h).toNat=41:=fun _=>rfl;have hb40:∀(h:0<(ByteArray.mk #[40]).size),((ByteArray.mk #[40])[0]'h).toNat=40:=fun _=>rfl;have kU:(eC (.slice none 0 0) (.slice none 0 0) (.slice none 0 0)).length=257:=tab_len _ _ _;have x4:w.cell? ⟨b,4,none⟩=some (.slice (some ⟨bo,oo,none⟩) 4 c):=(aH hr 4 rfl).1;go_enter Tryz.func215,Tryz.ntmps215;go_wp2_with fail;go_loop [4,5] (fun a i=>(a=.bool true/\i=.int .i64 0)\/(a=.bool false/\i=.int .i64 2)\/(a=.bool false/\i=.int .i64 4)) (fun a i=>4-(intOf i).toNat)
 case atStart=>exact .inl ⟨rfl,rfl⟩
 case round=>
  rcases hrel with⟨rfl,rfl⟩|⟨rfl,rfl⟩|⟨rfl,rfl⟩
  ·go_wp2_with fail
   go_round
   (case rel=>exact .inr (.inl ⟨rfl,C5⟩));case measure=>simp[intOf]
  ·go_wp2_with fail
   go_round
   (case rel=>exact .inr (.inr ⟨rfl,C5⟩));case measure=>simp[intOf]
  go_wp2_with fail;have HR:=zh (tab_rs w);clear hst hzz kU;generalize tabW w=w1 at *;go_wp2_with fail;go_loopw [12] (fun iv wr=>(iv=.int .i64 2/\Hid (RS w.heap.size w (w.heap.size+1) w.heap.size (.slice none 0 0) (.slice none 0 0) 0 wr))\/(iv=.int .i64 0/\∃y,Hid (RS w.heap.size w (w.heap.size+1) w.heap.size (.slice none 0 0) y 1 wr)/\Hid (Byt w.heap.size wr y ⟨#[32,41,32]⟩))\/(iv=.int .i64 (-2)/\∃x y,Hid (RS w.heap.size w (w.heap.size+1) w.heap.size x y 2 wr)/\Hid (Byt w.heap.size wr y ⟨#[32,41,32]⟩)/\Hid (Byt w.heap.size wr x ⟨#[32,40,32]⟩))) (fun iv _=>(intOf iv+2).toNat)
  case atStart=>exact .inl ⟨rfl,HR⟩
  case round=>
   clear HR;(rename World=>wr);rcases hrel with⟨rfl,HR⟩|⟨rfl,y,HR,HY⟩|⟨rfl,x,y,HR,HY,HX⟩
   ·have t2:=(HR.out.bel.cell (p:=⟨bo,oo+2,none⟩) (cV s2)).trans s2;have t3:=(HR.out.bel.cell (p:=⟨bo,oo+3,none⟩) (cV s3)).trans s3;have c41:=(aH HR.out.tab 41 (by rw[List.getElem?_toArray,gJ])).1;have c256:=(aH HR.out.tab 256 (by rw[List.getElem?_toArray,gG])).1;have zN:=one_back wr 41 41 rfl;go_wp2_with(at_builtin;refine wpList_append_fits _ rfl _ _ 26 rfl w.heap.size 9 i0 1 Tryz.underlying26 oN lF w.heap.size 0 2 (rls 0) D4 ((HR.out.own.alloc _).alloc _) ⟨wr.heap.size+1,0,none⟩ 1 1 [.string ⟨#[41]⟩] D4 rfl (news_one C0) DR CR ?_);intro w9 jY iP;have hT:RS w.heap.size w (w.heap.size+1) w.heap.size (.slice none 0 0) (.slice none 0 0) 1 (w9.setCell ⟨w.heap.size+1,256,none⟩ (.slice (some ⟨w.heap.size,0,none⟩) 1 2))/\_:=HR.out.step jY rfl iP;obtain⟨h1,qH,mO,q256,z256⟩:=hT;obtain⟨v,W11,hrun,rO,wM,a,c5,rfl⟩:=byt_of (w9.setCell ⟨w.heap.size+1,256,none⟩ (.slice (some ⟨w.heap.size,0,none⟩) 1 2)) ⟨#[32,41,32]⟩ w.heap.size h1.bel.size;obtain⟨h2,q4,z4⟩:=RS.put41 h1 rO (v:=.slice (some ⟨a,0,none⟩) (ByteArray.mk #[32,41,32]).size c5) rfl;have H2:=zh h2
    have HB:=zh (wM.up (W':=W11.setCell ⟨w.heap.size+1,41,none⟩ (.slice (some ⟨a,0,none⟩) (ByteArray.mk #[32,41,32]).size c5)) (fun j o hj ho hc=>(Below.heap_setCell _ _ _ _ (by
     rintro rfl;obtain⟨c,fr,rfl⟩:=hc;have e:=(rO.block _ (Array.getElem?_eq_some_iff.1 h1.tab).1).trans h1.tab;rw[ho] at e;obtain⟨-,e2,-⟩:=Obj.cells.inj (Option.some.inj e)
     exact absurd e2 CX)).trans ho))
    clear h1 h2 qH mO rO wM jY iP zN;go_wp2_with fail;go_roundw;(case rel=>exact .inr (.inl ⟨C5,_,H2,HB⟩));case measure=>simp[intOf]
   ·have t2:=(HR.out.bel.cell (p:=⟨bo,oo,none⟩) (cV s0)).trans s0;have t3:=(HR.out.bel.cell (p:=⟨bo,oo+1,none⟩) (cV s1)).trans s1;have c40:=(aH HR.out.tab 40 (by rw[List.getElem?_toArray,gK])).1;have c256:=(aH HR.out.tab 256 (by rw[List.getElem?_toArray,gG])).1;have zN:=one_back wr 40 40 rfl;go_wp2_with(at_builtin;refine wpList_append_fits _ rfl _ _ 26 rfl w.heap.size 9 i0 1 Tryz.underlying26 oN lF w.heap.size 1 2 (rls 1) D4 ((HR.out.own.alloc _).alloc _) ⟨wr.heap.size+1,0,none⟩ 1 1 [.string ⟨#[40]⟩] D4 rfl (news_one C0) DR CR ?_);intro w9 jY iP;have hT:RS w.heap.size w (w.heap.size+1) w.heap.size (.slice none 0 0) y 2 (w9.setCell ⟨w.heap.size+1,256,none⟩ (.slice (some ⟨w.heap.size,0,none⟩) 2 2))/\_:=HR.out.step jY rfl iP;obtain⟨h1,qH,mO,q256,z256⟩:=hT;obtain⟨v,W11,hrun,rO,wM,a,c5,rfl⟩:=byt_of (w9.setCell ⟨w.heap.size+1,256,none⟩ (.slice (some ⟨w.heap.size,0,none⟩) 2 2)) ⟨#[32,40,32]⟩ w.heap.size h1.bel.size;obtain⟨h2,q4,z4⟩:=RS.put40 h1 rO (v:=.slice (some ⟨a,0,none⟩) (ByteArray.mk #[32,40,32]).size c5) rfl;have H2:=zh h2
    have HB:=zh (wM.up (W':=W11.setCell ⟨w.heap.size+1,40,none⟩ (.slice (some ⟨a,0,none⟩) (ByteArray.mk #[32,40,32]).size c5)) (fun j o hj ho hc=>(Below.heap_setCell _ _ _ _ (by
     rintro rfl;obtain⟨c,fr,rfl⟩:=hc;have e:=(rO.block _ (Array.getElem?_eq_some_iff.1 h1.tab).1).trans h1.tab;rw[ho] at e;obtain⟨-,e2,-⟩:=Obj.cells.inj (Option.some.inj e)
     exact absurd e2 CX)).trans ho))
    have HY2:=zh (byt_keep (o:=40) (v:=.slice (some ⟨a,0,none⟩) (ByteArray.mk #[32,40,32]).size c5) HY.out HR.out qH mO rO);clear HY h1 h2 qH mO rO wM jY iP zN;go_wp2_with fail;go_roundw;(case rel=>exact .inr (.inr ⟨C5,_,_,H2,HY2,HB⟩));case measure=>simp[intOf]
   go_wp2_with fail;go_ret;exact⟨_,_,x,y,rfl,HR.out,HX.out,HY.out⟩
def parN(l:List UInt8):Nat:=l.count 41+l.count 40
theorem parN_snoc(l:List UInt8)(c:UInt8):parN (l++[c])=parN l+if c=40\/c=41 then 1 else 0:=by
 unfold parN;rw[List.count_append,List.count_append];by_cases h:c=40
 ·subst h;simp;omega
 by_cases h1:c=41
 ·subst h1;simp;omega
 simp[h,h1]
theorem parB_len(l:List UInt8):(l.flatMap hJ).length=l.length+2*parN l:=by
 induction l with
 |nil=>rfl
 |cons c l ih=>
  have e:parN (c::l)=(if c=40\/c=41 then 1 else 0)+parN l:=by
   unfold parN;rw[List.count_cons,List.count_cons];by_cases h:c=40
   ·subst h;simp;omega
   by_cases h1:c=41
   ·subst h1;simp;omega
   simp[h,h1]
  rw[List.flatMap_cons,List.length_append,ih,e,List.length_cons];unfold hJ;by_cases h:c=40
  ·subst h;simp;omega
  by_cases h1:c=41
  ·subst h1;simp;omega
  simp[h,h1];omega
theorem parB_none1:∀l:List UInt8,¬(41:UInt8)∈l->¬(40:UInt8)∈l->l.flatMap hJ=l
 |[],_,_=>rfl
 |c::l,h1,h2=>by
  simp at h1 h2;rw[List.flatMap_cons,parB_none1 l h1.2 h2.2];unfold hJ;rw[if_neg (fun e=>h2.1 e.symm),if_neg (fun e=>h1.1 e.symm)];rfl
theorem parB_none{l:List UInt8}(h:parN l=0):l.flatMap hJ=l:=by
 unfold parN at h;exact parB_none1 l (List.count_eq_zero.1 CR) (List.count_eq_zero.1 CR)
def parK(l:List UInt8):Nat->Nat
 |0=>0
 |1=>l.count 41
 |_=>parN l
def RT(g:Nat)(w:World):Prop:=∃q a1 c1 a2 c2,
 w.heap[g]? =some (.cells (eC (.slice (some ⟨a1,0,none⟩) 3 c1) (.slice (some ⟨a2,0,none⟩) 3 c2) (.slice (some ⟨q,0,none⟩) 2 2)).toArray 305)/\
 (w.cell? ⟨q,0,none⟩=some (.string ⟨#[41]⟩)/\w.cell? ⟨q,1,none⟩=some (.string ⟨#[40]⟩))/\
 (w.cell? ⟨a1,0,none⟩=some (.int .u8 32)/\w.cell? ⟨a1,1,none⟩=some (.int .u8 40)/\w.cell? ⟨a1,2,none⟩=some (.int .u8 32))/\
 (w.cell? ⟨a2,0,none⟩=some (.int .u8 32)/\w.cell? ⟨a2,1,none⟩=some (.int .u8 41)/\w.cell? ⟨a2,2,none⟩=some (.int .u8 32))
theorem RT.later{g:Nat}{w w':World}(h:RT g w)(hb:Below w.heap.size w w'):RT g w':=by
 obtain⟨q,a1,c1,a2,c2,h0,⟨k1,k2⟩,⟨m0,m1,m2⟩,n0,n1,n2⟩:=h;exact⟨q,a1,c1,a2,c2,(hb.block g (Array.getElem?_eq_some_iff.1 h0).1).trans h0,⟨aD hb k1,aD hb k2⟩,⟨aD hb m0,aD hb m1,aD hb m2⟩,aD hb n0,aD hb n1,aD hb n2⟩
theorem RT_of{B g q:Nat}{w0 w:World}{x y:Value}(h:RS B w0 g q x y 2 w)(hx:Byt B w x ⟨#[32,40,32]⟩)(hy:Byt B w y ⟨#[32,41,32]⟩):RT g w:=by
 obtain⟨a1,c1,f1,rfl,-,h1⟩:=hx;obtain⟨a2,c2,f2,rfl,-,h2⟩:=hy;have hc:=h.own.cells (g:=q) rfl
 have cell:∀{a c:Nat}{f:Nat×Nat}{s:bA},w.heap[a]? =some (.cells (bytesRow s c) 5 f)->∀j(hj:j<s.size),w.cell? ⟨a,j,none⟩=some (.int .u8 (s.data[j]'hj).toNat):=fun{a c f s}ha j hj=>by
  unfold World.cell?;simp[ha,bytesRow];rw[Array.getElem?_append_left FM];simp[hj]
 refine⟨q,a1,c1,a2,c2,h.tab,⟨?_,?_⟩,⟨cell h1 0 CX,cell h1 1 CX,cell h1 2 CX⟩,cell h2 0 CX,cell h2 1 CX,cell h2 2 CX⟩
 ·have:=hc 0 (.string ⟨#[41]⟩) rfl;simpa[Addr.add] using this
 have:=hc 1 (.string ⟨#[40]⟩) rfl;simpa[Addr.add] using this
theorem parN_take(s:bA)(k:Nat):parN (s.data.toList.take k)<=2*s.size:=by
 have h1:(s.data.toList.take k).count 41<=_:=List.count_le_length;have h2:(s.data.toList.take k).count 40<=_:=List.count_le_length
 have h3:(s.data.toList.take k).length<=s.size:=by
  rw[List.length_take];exact Nat.le_trans (Nat.min_le_right _ _) C0
 unfold parN;omega
theorem tab_cell{g:Nat}{w wr:World}{x y z:Value}(h0:w.heap[g]? =some (.cells (eC x y z).toArray 305))(hb:Below w.heap.size w wr){j:Nat}{v:Value}(hj:(eC x y z)[j]? =some v):wr.cell? ⟨g,j,none⟩=some v:=
 aD hb (aH h0 j (by rw[List.getElem?_toArray];exact hj)).1
theorem tab_par{g:Nat}{w wr:World}{a1 c1 a2 c2:Nat}{z:Value}(h0:w.heap[g]? =some (.cells (eC (.slice (some ⟨a1,0,none⟩) 3 c1) (.slice (some ⟨a2,0,none⟩) 3 c2) z).toArray 305))(hb:Below w.heap.size w wr){d:UInt8}(hp:d=40\/d=41):
  ∃a c,wr.cell? ⟨g,d.toNat,none⟩=some (.slice (some ⟨a,0,none⟩) 3 c):=by
 rcases hp with rfl|rfl
 ·exact⟨a1,c1,tab_cell h0 hb (gK _ _ _)⟩
 exact⟨a2,c2,tab_cell h0 hb (gJ _ _ _)⟩
theorem tab_not{g:Nat}{w wr:World}{x y z:Value}(h0:w.heap[g]? =some (.cells (eC x y z).toArray 305))(hb:Below w.heap.size w wr){d:UInt8}(hp:¬(d=40\/d=41)):
  wr.cell? ⟨g,d.toNat,none⟩=some (.slice none 0 0):=by
 have hd:d.toNat<256:=d.toNat_lt;refine tab_cell h0 hb (tab_at _ _ _ _ hd (fun e=>hp (.inl ?_)) (fun e=>hp (.inr ?_)))
 ·exact UInt8.toNat_inj.1 e
 exact UInt8.toNat_inj.1 e
def bcs(l:List UInt8):List Value:=l.map fun b=>.int .u8 b.toNat
def out(s:bA)(k:Nat):List UInt8:=(s.data.toList.take k).flatMap hJ
theorem bcs_one{p:List UInt8}:∀v∈bcs p,v.oneCell'=true:=by
 intro v hv;unfold bcs at hv;obtain⟨b,-,rfl⟩:=List.mem_map.1 hv;rfl
def rowB(s:bA)(n k:Nat):List Value:=bcs (out s k)++List.replicate (n-(out s k).length) (.int .u8 0)
theorem out_next(s:bA)(k:Nat)(h:k<s.size):out s (k+1)=out s k++hJ s[k]:=by
 unfold out;rw[take_snoc s k h,List.flatMap_append];simp
theorem out_all(s:bA):(out s s.size).length=s.size+2*parN s.data.toList:=by
 unfold out;rw[List.take_of_length_le C0,parB_len];simp
theorem out_le(s:bA)(k:Nat):(out s k).length<=(out s s.size).length:=by
 unfold out;rw[List.take_of_length_le (i:=s.size) C0];have e:=List.take_append_drop k s.data.toList
 have h:(s.data.toList.flatMap hJ).length=((s.data.toList.take k).flatMap hJ).length+((s.data.toList.drop k).flatMap hJ).length:=by
  rw[<-List.length_append,<-List.flatMap_append,e]
 omega
theorem rowB_len{s:bA}{n k:Nat}(h:(out s k).length<=n):(rowB s n k).length=n:=by
 unfold rowB bcs;rw[List.length_append,List.length_map,List.length_replicate];omega
theorem parB_3{d:UInt8}(h:d=40\/d=41):(bcs (hJ d)).length=3:=by
 rcases h with rfl|rfl<;>rfl
theorem parB_1{d:UInt8}(h:¬(d=40\/d=41)):hJ d=[d]:=by
 unfold hJ;rw[if_neg (fun e=>h (.inl e)),if_neg (fun e=>h (.inr e))]
theorem row_at{s:bA}{n k:Nat}(h:(out s k).length<n):(rowB s n k).toArray[(out s k).length]? =some (.int .u8 0):=by
 rw[List.getElem?_toArray];unfold rowB;have e:(bcs (out s k)).length=(out s k).length:=EL;rw[List.getElem?_append_right CR,e,Nat.sub_self,List.getElem?_replicate,if_pos CR]
theorem row_splice{s:bA}{n k:Nat}{p:List UInt8}(h:out s (k+1)=out s k++p)(hn:(out s (k+1)).length<=n):splice (rowB s n k) (out s k).length (bcs p)=rowB s n (k+1):=by
 have e:(bcs (out s k)).length=(out s k).length:=EL;have e2:(bcs p).length=p.length:=EL;rw[h,List.length_append] at hn;unfold splice rowB;rw[h,List.length_append,List.take_left' e,List.drop_append,e,e2,List.drop_of_length_le CR,Nat.add_sub_cancel_left,List.drop_replicate];unfold bcs;rw[List.map_append,List.nil_append,List.append_assoc,Nat.sub_sub]
theorem row_put{s:bA}{n k:Nat}{d:UInt8}(h:out s (k+1)=out s k++hJ d)(hd:¬(d=40\/d=41))(hn:(out s k).length+1<=n):(rowB s n k).set (out s k).length (.int .u8 (d.toNat:Int))=rowB s n (k+1):=by
 rw[parB_1 hd] at h;have e:(bcs (out s k)).length=(out s k).length:=EL;unfold rowB;rw[List.set_append_right _ _ CR,e,Nat.sub_self,h,List.length_append];obtain⟨m,hm⟩:∃m,n-(out s k).length=m+1:=⟨n-(out s k).length-1,CR⟩;rw[hm,List.replicate_succ,List.set_cons_zero];have e3:n-((out s k).length+[d].length)=m:=DC;rw[e3];unfold bcs;rw[List.map_append,List.append_assoc];rfl
theorem RT_lt{g:Nat}{w:World}(h:RT g w):g<w.heap.size:=by
 obtain⟨q,a1,c1,a2,c2,h0,-⟩:=h;exact(Array.getElem?_eq_some_iff.1 h0).1
theorem tab_not'{g:Nat}{w:World}(h:RT g w){d:UInt8}(hp:¬(d=40\/d=41)):w.cell? ⟨g,d.toNat,none⟩=some (.slice none 0 0):=by
 obtain⟨q,a1,c1,a2,c2,h0,-⟩:=h;exact tab_not h0 (Below.refl _ _) hp
theorem par_cells{g:Nat}{w:World}(h:RT g w){d:UInt8}(hp:d=40\/d=41):∃a c,w.cell? ⟨g,d.toNat,none⟩=some (.slice (some ⟨a,0,none⟩) 3 c)/\∀j v,(bcs (hJ d))[j]? =some v->w.cell? ((⟨a,0,none⟩:Addr).add j)=some v:=by
 obtain⟨q,a1,c1,a2,c2,h0,-,⟨m0,m1,m2⟩,n0,n1,n2⟩:=h;rcases hp with rfl|rfl
 ·refine⟨a1,c1,tab_cell h0 (Below.refl _ _) (gK _ _ _),fun j v hj=>?_⟩
  match j,hj with
  |0,hj=>cases hj;exact m0
  |1,hj=>cases hj;exact m1
  |2,hj=>cases hj;exact m2
 refine⟨a2,c2,tab_cell h0 (Below.refl _ _) (gJ _ _ _),fun j v hj=>?_⟩
 match j,hj with
 |0,hj=>cases hj;exact n0
 |1,hj=>cases hj;exact n1
 |2,hj=>cases hj;exact n2
theorem lic_out(s:bA):cG s=⟨(out s s.size).toArray⟩:=by
 unfold cG out;rw[List.take_of_length_le C0]
theorem conv_row{w:World}{b n:Nat}{s:bA}(h:w.heap[b]? =some (.cells (rowB s n s.size).toArray 5))(hn:(out s s.size).length=n):
  (convert 127 9 (.slice (some ⟨b,0,none⟩) n n)).run Tryz.prog w=.ok (.string ⟨(out s s.size).toArray⟩) w:=by
 have:=run_convert_bytes_back (P:=Tryz.prog) w 127 9 5 ⟨b,0,none⟩ n (out s s.size) Tryz.underlying127 Tryz.underlying5 Tryz.underlying9 (fun j hj=>by
  have e:(⟨b,0,none⟩:Addr).add j=⟨b,j,none⟩:=FG;rw[e];refine(aH h j ?_).1;rw[List.getElem?_toArray];unfold rowB bcs;rw[List.getElem?_append_left FM,List.getElem?_map,List.getElem?_eq_getElem hj]
  rfl)
 rw[hn] at this;exact this
theorem make_bytes(n:Nat)(hn:n<=1000000000000)(w:World):(Instr.makeSlice 127 (.int .i64 (n:Int)) (.int .i64 (n:Int))).run Tryz.prog w=.ok (.slice (some ⟨w.heap.size,0,none⟩) n n) (w.alloc (.cells (List.replicate n (Value.int .u8 0)).toArray 5)):=by
 obtain⟨i0,oN,pY,lF,nO⟩:=info_parts byteInfo;have:=run_make (P:=Tryz.prog) w 127 5 i0 _ Tryz.underlying127 oN pY .i64 .i64 n n CR (Int.le_refl _) (by rw[nO];omega) CR;rw[this,lF]
 have e:madeCells (Value.int IntKind.u8 0).cells n=(List.replicate n (Value.int .u8 0)).toArray:=by
  apply Array.toList_inj.1;have h:=toList_madeCells_one (.int .u8 0) n;simp only[Value.cells];rw[h]
 rw[Int.toNat_natCast,Nat.mul_one,e]
theorem rrep_any(g:Nat)(s:bA)(w:World)(hs:s.size<=1000)(h:RT g w):
  Calls Tryz.prog 356 #[.pointer (some ⟨g,0,none⟩),.string s] w fun e w'=>e=.returned (.string (cG s))/\Below w.heap.size w w':=by
 have HT:=zh h;obtain⟨q,a1,c1,a2,c2,h0,⟨k1,k2⟩,⟨m0,m1,m2⟩,n0,n1,n2⟩:=h;have x256:=(aH h0 256 (by rw[List.getElem?_toArray,gG])).1;have hq8:∀(w:World)(a:Option Addr)(n c n' c':Nat),(binOp .neq 127 (.slice a n c) (.slice none n' c')).run Tryz.prog w=.ok (.bool (!a.isNone)) w:=fun w a n c n' c'=>run_neq_slice_nil_any w _ _ a n c n' c' Tryz.underlying127;have sA:∀(x:Bool)(w:World),(Op.unary .not (.bool x)).run Tryz.prog w=.ok (.bool (!x)) w:=fun _ _=>rfl;have hb41:∀(h:0<(ByteArray.mk #[41]).size),((ByteArray.mk #[41])[0]'h).toNat=41:=fun _=>rfl;have hb40:∀(h:0<(ByteArray.mk #[40]).size),((ByteArray.mk #[40])[0]'h).toNat=40:=fun _=>rfl;generalize hN:parN s.data.toList=N;have HN:=zh hN;clear hN;go_enter Tryz.func356,Tryz.ntmps356
 go_upto_if 26 with(fail)
 go_cut [5,6] (fun n5 a6 wx=>n5=.int .i64 ((s.size+2*N:Nat):Int)/\a6=.bool (decide (N≠0))/\Hid (Below w.heap.size w wx))
 case first=>
  generalize decide ((16:Int)<=(s.size:Int))=bb;cases bb;rotate_left
  ·go_wp2_with fail;(go_loopw [5,6,32] (fun n5 a6 iv wx=>∃k m:Nat,k<=2/\iv=.int .i64 (k:Int)/\n5=.int .i64 ((s.size+2*m:Nat):Int)/\a6=.bool (decide (m≠0))/\Hid (m=parK s.data.toList k)/\Hid (Below w.heap.size w wx)) (fun _ _ iv _=>2-(intOf iv).toNat));case atStart=>exact⟨0,0,CR,rfl,rfl,rfl,zh rfl,zh (Below.refl _ _)⟩
   case round=>
    (rename World=>wr);obtain⟨k,m,hk,rfl,rfl,rfl,HM,HW⟩:=hrel;obtain rfl|rfl|rfl:k=0\/k=1\/k=2:=CR
    ·have j1:=aD HW.out k1;obtain rfl:m=0:=HM.out;go_wp2_with fail;refine(Tryz.strings_Count_one s 41 wr).mono ?_;rintro e w1 ⟨rfl,rfl⟩;have rN:Lib.countByte s.data.toList 41<=s.size:=List.count_le_length;generalize xS:Lib.countByte s.data.toList 41=c at *;have HC:Hid (s.data.toList.count 41=c):=zh (by exact xS);clear xS;by_cases sZ:c=0
     ·(have jH:((c:Int) != 0)=false:=by simp;exact sZ);have xF:=zh sZ;clear sZ rN;go_wp2_with fail;go_roundw;(case rel=>exact⟨1,s.data.toList.count 41,CR,C5,FA,FA,zh rfl,HW⟩);case measure=>simp[intOf]
     (have jH:((c:Int) != 0)=true:=by simp;exact sZ);have x4:=aD HW.out (aH h0 41 (by rw[List.getElem?_toArray,gJ])).1;have vO:IntKind.i64.wrap (3-1)=2:=rfl;have hm2:IntKind.i64.wrap ((c:Int)*2)=(c:Int)*2:=bN CR CR;have hm3:IntKind.i64.wrap ((s.size:Int)+(c:Int)*2)=(s.size:Int)+(c:Int)*2:=bN CR CR;go_wp2_with fail;have xF:=zh sZ;clear sZ;(go_region);go_wp2_with fail;go_roundw;(case rel=>exact⟨1,s.data.toList.count 41,CR,C5,by rw[HC.out];go_num,by rw[HC.out,decide_eq_true (by have:=xF.out;omega)],zh rfl,zh HW.out.drew⟩);case measure=>simp[intOf]
    ·have j1:=aD HW.out k2;go_wp2_with fail;refine(Tryz.strings_Count_one s 40 wr).mono ?_;rintro e w1 ⟨rfl,rfl⟩;have rN:Lib.countByte s.data.toList 40<=s.size:=List.count_le_length;(have hml:m<=s.size:=by rw[HM.out];exact List.count_le_length);have hmb:Hid (m=0\/m≠0):=zh (Classical.em _);generalize xS:Lib.countByte s.data.toList 40=c at *;have HC:Hid (N=m+c):=zh (by rw[<-HN.out,<-xS];unfold parN;rw[HM.out];rfl);clear xS;by_cases sZ:c=0
     ·(have jH:((c:Int) != 0)=false:=by simp;exact sZ);have xF:=zh sZ;clear sZ rN;go_wp2_with fail;go_roundw;(case rel=>exact⟨2,N,CR,C5,FA,FA,zh HN.out.symm,HW⟩);case measure=>simp[intOf]
     (have jH:((c:Int) != 0)=true:=by simp;exact sZ);have x4:=aD HW.out (aH h0 40 (by rw[List.getElem?_toArray,gK])).1;have vO:IntKind.i64.wrap (3-1)=2:=rfl;have hm2:IntKind.i64.wrap ((c:Int)*2)=(c:Int)*2:=bN CR CR;have hm3:IntKind.i64.wrap (((s.size:Int)+2*(m:Int))+(c:Int)*2)=((s.size:Int)+2*(m:Int))+(c:Int)*2:=bN CR CR;go_wp2_with fail;have xF:=zh sZ;clear sZ;(go_region);go_wp2_with fail;go_roundw;(case rel=>exact⟨2,N,CR,C5,by rw[HC.out];go_num,by rw[HC.out,decide_eq_true (by have:=xF.out;omega)],zh HN.out.symm,zh HW.out.drew⟩);case measure=>simp[intOf]
    (obtain rfl:m=N:=by rw[HM.out,<-HN.out];rfl);go_wp2_with fail
    go_meet
    exact⟨rfl,rfl,HW⟩
  go_wp2_with fail;go_loopw [5,6,10] (fun n5 a6 iv wx=>∃k m:Nat,k<=s.size/\iv=.int .i64 (k:Int)/\n5=.int .i64 ((s.size+2*m:Nat):Int)/\a6=.bool (decide (m≠0))/\Hid (m=parN (s.data.toList.take k))/\Hid (Below w.heap.size w wx)) (fun _ _ iv _=>s.size-(intOf iv).toNat)
  case atStart=>exact⟨0,0,CR,rfl,rfl,rfl,zh rfl,zh (Below.refl _ _)⟩
  case round=>
   (rename World=>wr);obtain⟨k,m,hk,rfl,rfl,rfl,HM,HW⟩:=hrel;by_cases jM:k<s.size
   ·have nN:(0:Int)<=(k:Int)/\(k:Int)<(s.size:Int):=CR;have HD:Hid (parN (s.data.toList.take (k+1))=m+if s[k]=40\/s[k]=41 then 1 else 0):=zh (by rw[take_snoc s k jM,parN_snoc,HM.out]);(have hmb:m<=2*s.size:=by rw[HM.out];exact parN_take s k);have vO:IntKind.i64.wrap (3-1)=2:=rfl;have hm3:IntKind.i64.wrap ((s.size:Int)+2*(m:Int)+2)=(s.size:Int)+2*(m:Int)+2:=bN CR CR;have hd2:s[k].toNat<256:=s[k].toNat_lt;have hd1:(0:Int)<=(s[k].toNat:Int)/\(s[k].toNat:Int)<256:=CR;by_cases hp:s[k]=40\/s[k]=41
    ·obtain⟨a,c,x4⟩:∃a c,wr.cell? ⟨g,s[k].toNat,none⟩=some (.slice (some ⟨a,0,none⟩) 3 c):=tab_par h0 HW.out hp;have kW:Hid (parN (s.data.toList.take (k+1))=m+1):=zh (by rw[HD.out,if_pos hp]);clear HD hp;go_wp2_with fail;go_roundw;(case rel=>exact⟨k+1,m+1,CR,C5,C5,rfl,zh kW.out.symm,HW⟩);case measure=>simp[intOf];omega
    have x4:wr.cell? ⟨g,s[k].toNat,none⟩=some (.slice none 0 0):=tab_not h0 HW.out hp;have kW:Hid (parN (s.data.toList.take (k+1))=m):=zh (by rw[HD.out,if_neg hp];rfl);clear HD hp;go_wp2_with fail;go_roundw;(case rel=>exact⟨k+1,m,CR,C5,C5,C0,zh kW.out.symm,HW⟩);case measure=>simp[intOf];omega
   obtain rfl:k=s.size:=CR;(obtain rfl:m=N:=by rw[HM.out,<-HN.out,List.take_of_length_le C0]);go_wp2_with fail
   go_meet
   exact⟨rfl,rfl,HW⟩
 case rest=>
  obtain⟨rfl,rfl,HW⟩:=hcut;by_cases hN0:N=0
  ·subst hN0;have HL:Hid (cG s=s):=zh (by unfold cG;rw[parB_none HN.out]);go_wp2_with fail;go_ret;exact⟨bF HL.out.symm,HW.out⟩
  have hNle:N<=2*s.size:=by
   rw[<-HN.out];have:=parN_take s s.size;rw[List.take_of_length_le C0] at this;exact this
  rw[decide_eq_true hN0];obtain⟨n,hn⟩:∃n,n=s.size+2*N:=⟨_,rfl⟩;rw[<-hn];have hn3:n<=5000:=CR;have hmk:=make_bytes n CR;have HRT:=zh (HT.out.later HW.out)
  have HX:Hid (∀k,(out s k).length<=n):=zh (fun k=>by
   have h1:=out_le s k;rw[out_all,HN.out,<-hn] at h1
   exact h1)
  have HE:Hid ((out s s.size).length=n):=zh (by rw[out_all,HN.out,hn]);clear hn HN hN0 hNle k1 k2 m0 m1 m2 n0 n1 n2 h0 x256;go_wp2_with fail;go_loopw [13,14] (fun jv iv wx=>∃k:Nat,k<=s.size/\iv=.int .i64 (k:Int)/\jv=.int .i64 ((out s k).length:Int)/\Hid (wx.heap[wc.heap.size]? =some (.cells (rowB s n k).toArray 5))/\Hid (Below wc.heap.size wc wx)) (fun _ iv _=>s.size-(intOf iv).toNat)
  case atStart=>exact⟨0,CR,rfl,rfl,zh (bY wc _),zh ((Below.refl wc.heap.size wc).alloc (Nat.le_refl _) _)⟩
  case round=>
   (rename World=>wr);obtain⟨k,hk,rfl,rfl,HB,HWr⟩:=hrel;by_cases jM:k<s.size
   ·have nN:(0:Int)<=(k:Int)/\(k:Int)<(s.size:Int):=CR;have hd2:s[k].toNat<256:=s[k].toNat_lt;have hd1:(0:Int)<=(s[k].toNat:Int)/\(s[k].toNat:Int)<256:=CR;have hT2:=HRT.out.later (Below.mono HWr.out (Nat.le_refl _));have nB:=out_next s k jM;have tZ:=HX.out (k+1);by_cases hp:s[k]=40\/s[k]=41
    ·obtain⟨a,c,x4,hS0⟩:=par_cells hT2 hp;have HS:=zh hS0;have rN:(bcs (hJ s[k])).length=3:=parB_3 hp;(have hjn:(out s k).length+3<=n:=by rw[nB,List.length_append] at tZ;have:=rN;unfold bcs at this;rw[List.length_map] at this;omega);have hgw:g<wc.heap.size:=RT_lt HRT.out;have pQ:Hid (splice (rowB s n k) (out s k).length (bcs (hJ s[k]))=rowB s n (k+1)):=zh (row_splice nB tZ);have HLn:Hid ((out s (k+1)).length=(out s k).length+3):=zh (by rw[nB,List.length_append];unfold bcs at rN;rw[List.length_map] at rN;omega);clear hS0 hT2 nB tZ;go_wp2_with fail;refine wp_region_held_drew (S:=fun W=>Below wc.heap.size wr W) CQ ((Below.refl wc.heap.size wr).drew) fun hS=>?_;refine zq 0 (.int .i64 ((out s k).length:Int)) rfl ?_;refine zq 1 (.slice (some ⟨wc.heap.size,0,none⟩) n n) rfl ?_;refine zq 2 (.int .i64 ((out s k).length:Int)) rfl ?_;refine zt 3 (.slice (some ⟨wc.heap.size,(out s k).length,none⟩) (n-(out s k).length) (n-(out s k).length)) rfl (fun W hW=>by have q1:¬n=(out s k).length:=CR;have q2:(out s k).length<=n:=CR;go_simp) ?_;refine zq 4 (.pointer (some ⟨g,0,none⟩)) rfl ?_;refine zq 5 (.int .u8 (s[k].toNat:Int)) rfl ?_;refine zq 6 (.pointer (some ⟨g,0,none⟩)) rfl ?_;refine zq 7 (.pointer (some ⟨g,0,none⟩)) rfl ?_;refine zq 8 (.pointer (some ⟨g,s[k].toNat,none⟩)) rfl ?_;refine zt 9 (.slice (some ⟨a,0,none⟩) 3 c) rfl (fun W hW=>by have q0:=(hW.cell hgw).trans x4;go_simp) ?_;(try simp only[zn]);refine wpAnyH_ready (rs:=[10]) CQ C0 ?_;refine AllReadyH.cons rfl (fun K hK=>?_) AllReadyH.nil;refine step_copy_splice (w:=wr.drew) rfl _ _ 127 127 rfl 5 Tryz.underlying127 CQ (some ⟨wc.heap.size,(out s k).length,none⟩) (some ⟨a,0,none⟩) (n-(out s k).length) (n-(out s k).length) 3 c D4 D4 wc.heap.size (out s k).length (rowB s n k) 5 HB.out (bcs (hJ s[k])) (by rw[rN];exact(Nat.min_eq_left CR).symm) (fun _=>⟨rfl,⟨a,0,none⟩,rfl,HS.out⟩) (by rw[rN,rowB_len CR];omega) bcs_one wc.heap.size wr ((Below.refl wc.heap.size wr).drew) (Nat.le_refl _) ?_;intro w4 yN pV;have oZ:=zh pV;clear pV;refine hK.out _ _ oZ.out (fun hS=>?_);clear hK K;refine zt 11 (.int .i64 (((out s k).length:Int)+3)) rfl (fun W hW=>by have q3:IntKind.i64.wrap (((out s k).length:Int)+3)=((out s k).length:Int)+3:=bN CR CR;go_simp) ?_;refine zq 12 (.int .i64 (((out s k).length:Int)+3)) rfl ?_;(try simp only[zn]);refine wpAnyH_done CQ ?_ _;have kH:Hid (w4.heap[wc.heap.size]? =some (.cells (rowB s n (k+1)).toArray 5)):=zh (by rw[yN.out,pQ.out]);have AC:=zh (HWr.out.trans oZ.out);clear hS yN;go_wp2_with fail;go_roundw;(case rel=>exact⟨k+1,CR,C5,by rw[HLn.out];go_num,kH,AC⟩);case measure=>simp[intOf];omega
    have x4:=tab_not' hT2 hp;(have mY:(out s k).length+1<=n:=by rw[nB,List.length_append,parB_1 hp] at tZ;simpa using tZ);have hjn:(0:Int)<=((out s k).length:Int)/\((out s k).length:Int)<(n:Int):=CR;have hbc:=aH HB.out (out s k).length (row_at CR);have rJ:IntKind.i64.wrap (((out s k).length:Int)+1)=((out s k).length:Int)+1:=bN CR CR;have HLn:Hid ((out s (k+1)).length=(out s k).length+1):=zh (by rw[nB,List.length_append,parB_1 hp];rfl);have jF:Hid ((wr.setCell ⟨wc.heap.size,(out s k).length,none⟩ (.int .u8 (s[k].toNat:Int))).heap[wc.heap.size]? =some (.cells (rowB s n (k+1)).toArray 5)):=zh (by rw[aG HB.out,List.setIfInBounds_toArray,row_put nB hp mY]);obtain⟨kK,jP⟩:=hbc;clear hT2 nB tZ hp;go_wp2_with fail;go_roundw;(case rel=>exact⟨k+1,CR,C5,by rw[HLn.out];go_num,jF,zh (HWr.out.setCell (Nat.le_refl _) _)⟩);case measure=>simp[intOf];omega
   obtain rfl:k=s.size:=CR;have zN:=conv_row HB.out HE.out;have HL:=zh (lic_out s);have HQ:=zh (aA HW.out HWr.out);go_wp2_with fail;go_ret;exact⟨bF HL.out.symm,HQ.out⟩
def repArgs:Array Value:=#[.string ⟨#[40]⟩,.string ⟨#[32,40,32]⟩,.string ⟨#[41]⟩,.string ⟨#[32,41,32]⟩]
def RTb(b g:Nat)(w:World):Prop:=∃q a1 c1 a2 c2,(b<g/\b<q/\b<a1/\b<a2)/\
 w.heap[g]? =some (.cells (eC (.slice (some ⟨a1,0,none⟩) 3 c1) (.slice (some ⟨a2,0,none⟩) 3 c2) (.slice (some ⟨q,0,none⟩) 2 2)).toArray 305)/\
 (w.cell? ⟨q,0,none⟩=some (.string ⟨#[41]⟩)/\w.cell? ⟨q,1,none⟩=some (.string ⟨#[40]⟩))/\
 (w.cell? ⟨a1,0,none⟩=some (.int .u8 32)/\w.cell? ⟨a1,1,none⟩=some (.int .u8 40)/\w.cell? ⟨a1,2,none⟩=some (.int .u8 32))/\
 (w.cell? ⟨a2,0,none⟩=some (.int .u8 32)/\w.cell? ⟨a2,1,none⟩=some (.int .u8 41)/\w.cell? ⟨a2,2,none⟩=some (.int .u8 32))
theorem RTb.rt{b g:Nat}{w:World}(h:RTb b g w):RT g w:=by
 obtain⟨q,a1,c1,a2,c2,-,h⟩:=h;exact⟨q,a1,c1,a2,c2,h⟩
theorem RTb.up{b g:Nat}{W W':World}(h:RTb b g W)(hw:∀k,b<k->W'.heap[k]? =W.heap[k]?):RTb b g W':=by
 obtain⟨q,a1,c1,a2,c2,⟨l0,l1,l2,l3⟩,h0,⟨k1,k2⟩,⟨m0,m1,m2⟩,n0,n1,n2⟩:=h;have e:∀{k o v},b<k->W.cell? ⟨k,o,none⟩=some v->W'.cell? ⟨k,o,none⟩=some v:=fun hk h=>(World.cell?_of_block (hw _ hk)).trans h;exact⟨q,a1,c1,a2,c2,⟨l0,l1,l2,l3⟩,(hw g l0).trans h0,⟨e l1 k1,e l1 k2⟩,⟨e l2 m0,e l2 m1,e l2 m2⟩,e l3 n0,e l3 n1,e l3 n2⟩
theorem RTb_of{B b g q:Nat}{w0 w:World}{x y:Value}(hb:b<B)(h:RS B w0 g q x y 2 w)(hx:Byt B w x ⟨#[32,40,32]⟩)(hy:Byt B w y ⟨#[32,41,32]⟩):RTb b g w:=by
 obtain⟨q',a1,c1,a2,c2,h0,r⟩:=RT_of h hx hy;obtain⟨xX,xV,f1,rfl,g1,-⟩:=hx;obtain⟨tR,sU,f2,rfl,g2,-⟩:=hy;have e:=h.tab;rw[h0] at e;obtain⟨e1,-,-⟩:=Obj.cells.inj (Option.some.inj e);have e2:=congrArg Array.toList e1;simp only[] at e2;have t0:=congrArg (fun l=>l[40]?) e2;have t1:=congrArg (fun l=>l[41]?) e2;have t2:=congrArg (fun l=>l[256]?) e2;simp only[gK,gJ,gG,Option.some.injEq,Value.slice.injEq,Addr.mk.injEq] at t0 t1 t2;have:=(h.own.lt q rfl).1;have:=h.gB;exact⟨q',a1,c1,a2,c2,⟨CR,CR,CR,CR⟩,h0,r⟩
def RepN(b:Nat)(w:World):Prop:=∃bo c,w.heap[b]? =some (.cells #[.int .u32 0,.int .i32 0,.int .u32 0,.nilIface,.slice (some ⟨bo,0,none⟩) 4 c] 243)/\bo<b/\
 w.cell? ⟨bo,0,none⟩=some (.string ⟨#[40]⟩)/\w.cell? ⟨bo,1,none⟩=some (.string ⟨#[32,40,32]⟩)/\w.cell? ⟨bo,2,none⟩=some (.string ⟨#[41]⟩)/\w.cell? ⟨bo,3,none⟩=some (.string ⟨#[32,41,32]⟩)
theorem newrep_any(g c0:Nat)(w:World)(h:w.heap[g]? =some (.cells repArgs 9)):
  Calls Tryz.prog 133 #[.slice (some ⟨g,0,none⟩) 4 c0] w fun e w'=>∃b,e=.returned (.pointer (some ⟨b,0,none⟩))/\w.heap.size<=b/\RepN b w'/\Below w.heap.size w w':=by
 obtain⟨i0,oN,pY,lF,nO⟩:=info_parts strInfo;have hr:IntKind.i64.wrap ((4:Int).tmod 2)=0:=rfl;go_enter Tryz.func133,Tryz.ntmps133;go_wp2_with(at_builtin;refine wpList_append_lies _ rfl _ _ 26 rfl w.heap.size 9 i0 (.string ByteArray.empty) 1 16 Tryz.underlying26 oN pY lF nO rfl CR (.slice none 0 0) 0 [] D4 (World.ownsRow_nil w w.heap.size 9 1) ⟨g,0,none⟩ 4 c0 repArgs.toList D4 rfl (World.news_of_block h) (by simp[repArgs,Value.oneCell']) CR DO CR (Nat.le_refl _) w.heap.size rfl ?_);intro gg cap w1 jY iP mM jM;have hc:=jY.cells (g:=gg) rfl;obtain⟨sC,-⟩:=jY.lt gg rfl;have jL:=zh (gD (Below.refl w.heap.size w) iP (fun k hk=>by simp[Value.ownBlock] at hk));have s0:=hc 0 _ rfl;have s1:=hc 1 _ rfl;have s2:=hc 2 _ rfl;have s3:=hc 3 _ rfl;have e:∀j,(⟨gg,0,none⟩:Addr).add j=⟨gg,j,none⟩:=fun j=>FG;rw[e] at s0 s1 s2 s3
 have HR:Hid (RepN w1.heap.size (w1.alloc (.cells #[.int .u32 0,.int .i32 0,.int .u32 0,.nilIface,.slice (some ⟨gg,0,none⟩) 4 cap] 243))):=zh
  ⟨gg,cap,bY w1 _,jM,aD (aB _ _) s0,aD (aB _ _) s1,aD (aB _ _) s2,aD (aB _ _) s3⟩
 have hz:=jL.out.size;have jF:=zh (aA jL.out (aB w1 (.cells #[.int .u32 0,.int .i32 0,.int .u32 0,.nilIface,.slice (some ⟨gg,0,none⟩) 4 cap] 243)));clear jY iP mM hc s0 s1 s2 s3 e;go_wp2_with fail;go_ret;exact⟨_,rfl,hz,HR.out,jF.out⟩
theorem once_runs(b:Nat)(w:World)(h:RepN b w):∃x4,w.heap[b]? =some (.cells #[.int .u32 0,.int .i32 0,.int .u32 0,.nilIface,x4] 243)/\
  OnceRuns 176 b (.int .u32 0) .nilIface x4 (fun y3 y4 W=>∃g,y3=.iface 306 (.pointer (some ⟨g,0,none⟩))/\RTb b g W) w:=by
 obtain⟨bo,c,h0,hbo,s0,s1,s2,s3⟩:=h;refine⟨_,h0,fun W hW hb hz hk=>?_⟩;have c0:=(hb.cell (p:=⟨bo,0,none⟩) hbo).trans s0;have c1:=(hb.cell (p:=⟨bo,1,none⟩) hbo).trans s1;have c2:=(hb.cell (p:=⟨bo,2,none⟩) hbo).trans s2;have c3:=(hb.cell (p:=⟨bo,3,none⟩) hbo).trans s3;have uE:b<W.heap.size:=(Array.getElem?_eq_some_iff.1 hW).1;have HBu:=zh (rbuild_any b bo 0 c (.int .u32 0) (.int .i32 1) (.int .u32 0) .nilIface W hW c0 (by simpa using c1) (by simpa using c2) (by simpa using c3));have HW:=zh hW;clear c0 c1 c2 c3 s0 s1 s2 s3 h0 hW hb hz hk;go_enter Tryz.func176,Tryz.ntmps176;go_wp2_with fail;refine HBu.out.mono ?_;rintro e w1 ⟨g,q,x,y,rfl,hr,hx,hy⟩;have H1:=(hr.bel.block b uE).trans HW.out;have x3:=aH H1 3 rfl;have x4:=aH H1 4 rfl;obtain⟨x3a,x3b⟩:=x3;obtain⟨x4a,x4b⟩:=x4
 have H2:Hid (((w1.setCell ⟨b,3,none⟩ (.iface 306 (.pointer (some ⟨g,0,none⟩)))).setCell ⟨b,4,none⟩ (.slice none 0 0)).heap[b]? =some (.cells #[.int .u32 0,.int .i32 1,.int .u32 0,.iface 306 (.pointer (some ⟨g,0,none⟩)),.slice none 0 0] 243)):=zh (by
  rw[aG (aG H1 _ _) _ _];rfl)
 have HBe:=zh (((hr.bel.mono (Nat.le_of_lt uE)).setCell (p:=⟨b,3,none⟩) (Nat.le_refl _) (.iface 306 (.pointer (some ⟨g,0,none⟩)))).setCell (p:=⟨b,4,none⟩) (Nat.le_refl _) (.slice none 0 0));have HQ:=zh (RTb_of uE hr hx hy);have qB:=zh (HQ.out.up (W':=(w1.setCell ⟨b,3,none⟩ (.iface 306 (.pointer (some ⟨g,0,none⟩)))).setCell ⟨b,4,none⟩ (.slice none 0 0)) (fun k hk=>(Below.heap_setCell _ _ _ _ DC).trans (Below.heap_setCell _ _ _ _ DC)));clear hr hx hy H1 HBu;go_wp2_with fail;go_end0;exact⟨rfl,HBe.out,_,_,H2.out,g,rfl,qB.out⟩
theorem replace_any(b:Nat)(s:bA)(w:World)(hs:s.size<=1000)(h:RepN b w):
  Calls Tryz.prog 134 #[.pointer (some ⟨b,0,none⟩),.string s] w fun e w'=>e=.returned (.string (cG s))/\Below b w w':=by
 obtain⟨x4,h0,hO⟩:=once_runs b w h;have hmf:∀(fn:Fn)(first cap:Array Value)(w:World),(Instr.makeFunc fn first cap).run Tryz.prog w=.ok (.func fn first cap) w:=fun _ _ _ _=>rfl
 have HDo:=zh (o_do b _ _ _ w h0 hO (fun y3 y4 W W' hq mO hk=>by
  obtain⟨g,e,hr⟩:=hq
  exact⟨g,e,hr.up hk⟩))
 have tA:b<w.heap.size:=(Array.getElem?_eq_some_iff.1 h0).1;clear hO h h0;go_enter Tryz.func134,Tryz.ntmps134;go_wp2_with fail;refine HDo.out.mono ?_;rintro e w1 ⟨rfl,kK,y3,y4,h1,g,rfl,hr⟩;have x3:=(aH h1 3 rfl).1;have jL:=zh kK;have HR:=zh hr;have hm:∀w:World,(method 525 306 (.pointer (some ⟨g,0,none⟩)) "Replace").run Tryz.prog w=.ok (356,.pointer (some ⟨g,0,none⟩)) w:=fun _=>CQ;clear kK hr h1 HDo;go_wp2_with fail;refine(rrep_any g s w1 hs HR.out.rt).mono ?_;rintro e w2 ⟨rfl,jP⟩;have jF:=zh (jL.out.trans (jP.mono (Nat.le_of_lt (Nat.lt_of_lt_of_le tA jL.out.size))));clear jP;go_wp2_with fail;go_ret;exact⟨rfl,jF.out⟩
end Go.Proofs.YtmpopphjaggeoaaGreatDoor
