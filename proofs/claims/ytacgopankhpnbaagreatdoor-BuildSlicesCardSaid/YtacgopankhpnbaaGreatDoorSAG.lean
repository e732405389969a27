/- Texts of this seat, joined. -/
import Derived.Great.BuildSlice
import Derived.Test.YtacgopankhpnbaaGreatDoorSAE
set_option maxHeartbeats 8000000
set_option maxRecDepth 100000
set_option linter.unusedVariables false
set_option linter.unusedSimpArgs false
namespace Go.Proofs.YtacgopankhpnbaaGreatDoor
open Go.RowKit
section
variable {o:Oper} {a:Act} {w:World} {K:Act->World->Prop} {Q:Exit->Act->World->Prop}
theorem xpSize:(Tryz.prog.info? 177).map (·.size)=some 6:=VH
theorem xp_load(g:Nat){c0 c1 c2 c3 c4 c5:Value}(hg:w.heap[g]? =some (.cells #[c0,c1,c2,c3,c4,c5] 177))(x:Operand)(ho:o.op=.load 177 x)(hx:a.eval x=.pointer (some ⟨g,0,none⟩))
  (h:K (a.put o.dst (.agg #[c0,c1,c2,c3,c4,c5])) w):o.wp Tryz.prog a w K Q:=
 wp_load_row _ x ho g hx _ _ _ _ hg Tryz.underlying177 rfl xpSize h
theorem mY(g:Nat){z0 z1 z2 z3 z4 z5 c0 c1 c2 c3 c4 c5:Value}(hg:w.heap[g]? =some (.cells #[z0,z1,z2,z3,z4,z5] 177))(x y:Operand)(ho:o.op=.store 177 x y)(hx:a.eval x=.pointer (some ⟨g,0,none⟩))(hy:a.eval y=.agg #[c0,c1,c2,c3,c4,c5])(h1:#[c0,c1,c2,c3,c4,c5].all (·.oneCell')=true)
  (h:K (a.put o.dst undef) (w.setRow g #[c0,c1,c2,c3,c4,c5])):o.wp Tryz.prog a w K Q:=
 wp_store_row _ x y ho g _ hx hy _ _ hg xpSize rfl h1 h
theorem xp_slice1{c0 c1 c2 c3 c4 c5:Value}(x:Operand)(ho:o.op=.buildSlice 127 1 #[(0,x)])(hx:a.eval x=.agg #[c0,c1,c2,c3,c4,c5])
  (h:K (a.put o.dst (.slice (some ⟨w.heap.size,0,none⟩) 1 1)) (w.alloc (.cells #[c0,c1,c2,c3,c4,c5] 177))):o.wp Tryz.prog a w K Q:=by
 obtain⟨ie,hie,hz,hs,-⟩:=info_parts xpInfo;refine wp_buildSlice _ _ 1 _ ho #[c0,c1,c2,c3,c4,c5] ie _ Tryz.underlying127 hie hz (by rw[hs];decide) (by rw[hs];decide) ?_ h;rw[hs];simp only[List.map_toArray,List.map_cons,List.map_nil,hx]
 kernel_rfl
theorem xp_slice2{c0 c1 c2 c3 c4 c5 d0 d1 d2 d3 d4 d5:Value}(x y:Operand)(ho:o.op=.buildSlice 127 2 #[(0,x),(1,y)])(hx:a.eval x=.agg #[c0,c1,c2,c3,c4,c5])(hy:a.eval y=.agg #[d0,d1,d2,d3,d4,d5])
  (h:K (a.put o.dst (.slice (some ⟨w.heap.size,0,none⟩) 2 2)) (w.alloc (.cells #[c0,c1,c2,c3,c4,c5,d0,d1,d2,d3,d4,d5] 177))):o.wp Tryz.prog a w K Q:=by
 obtain⟨ie,hie,hz,hs,-⟩:=info_parts xpInfo;refine wp_buildSlice _ _ 2 _ ho #[c0,c1,c2,c3,c4,c5,d0,d1,d2,d3,d4,d5] ie _ Tryz.underlying127 hie hz (by rw[hs];decide) (by rw[hs];decide) ?_ h;rw[hs];simp only[List.map_toArray,List.map_cons,List.map_nil,hx,hy]
 kernel_rfl
end
theorem row_off(w:World)(g:Nat)(cs:Array Value):Off (fun b=>b=g) w (w.setRow g cs):=⟨rfl,rfl,rfl,VL,fun k _ hn=>setRow_other w g k cs hn⟩
end Go.Proofs.YtacgopankhpnbaaGreatDoor
namespace Go.Proofs.YtacgopankhpnbaaGreatDoor
open Go.RowKit
theorem UA{p:Prop}(h:p:=by
 obtain⟨_,_,-,h⟩:=PR.of_bnd h;obtain⟨_,_,-,h⟩:=PR.of_bnd h;obtain⟨_,_,-,h⟩:=PR.of_bnd h;obtain⟨_,_,-,h⟩:=PR.of_bnd h;obtain⟨_,_,-,h⟩:=PR.of_bnd h;cases h;exact Nat.zero_le _):p:=h
def nX:List Value:=(nD.map fun o=>[Value.string o.1,.int .i64 o.2.1,.int .i64 (o.2.2:Int)]).flatten
theorem operators_any(w:World):Calls Tryz.prog 219 #[] w fun e w'=>e=.returned (.slice (some ⟨w.heap.size,0,none⟩) 7 7)/\w'=w.alloc (.cells nX.toArray 280):=by
 go_enter Tryz.func219,Tryz.ntmps219
 go_wp2
 go_ret;exact⟨rfl,rfl⟩
theorem opers_one{l:List Tok}{i a b:Nat}{x y:ByteArray×Int×Nat}(hx:nD[a]? =some x)(hy:nD[b]? =some y)(h1:isP l i x.1=true)(h2:isP l i y.1=true):a=b:=by
 unfold isP at h1 h2;simp only[Bool.and_eq_true,decide_eq_true_eq] at h1 h2;have e:x.1=y.1:=h1.2.symm.trans h2.2;have ha:=(List.getElem?_eq_some_iff.1 hx).1;have hb:=(List.getElem?_eq_some_iff.1 hy).1;have key:∀a b:Fin 7,(nD.map fun o=>o.1.data.toList)[a.1]? =(nD.map fun o=>o.1.data.toList)[b.1]? ->a=b:=VI;have rX:a<7:=ha;have vR:b<7:=hb;have:=key ⟨a,rX⟩ ⟨b,vR⟩ (by simp only[List.getElem?_map,hx,hy,Option.map_some,e]);exact congrArg Fin.val this
structure ExL (p:Prs) (W:World) (b5:Nat) (x:Xp) (cs:List Value) (q:Nat) (wr:World):Prop where
 off:Off p.S W wr
 res:wr.heap[W.heap.size]? =some (.cells bH 177)
 loc:wr.heap[b5]? =some (.cells cs.toArray 177)
 enc:bV (fun b=>W.heap.size<b/\b≠b5) wr x cs
 b5:W.heap.size<b5
 pb:p.pb<W.heap.size
 at_:p.At wr q
section
variable {p:Prs} {W wr w':World} {b5 q j:Nat} {x y:Xp} {cs:List Value}
theorem ExL.next(h:ExL p W b5 x cs q wr)(ho:Off p.S wr w')(ha:p.At w' j):ExL p W b5 x cs j w':=by
 have tZ:=h.pb;have hb:=h.b5;exact⟨h.off.trans ho,ho.heap (fun e=>by have e:W.heap.size=p.pb:=e;omega) h.res,ho.heap (fun e=>by have e:b5=p.pb:=e;omega) h.loc,aG.off h.enc ho (fun b pR hn=>by have pR:b=p.pb:=pR;have:=hn.1;omega),hb,tZ,ha⟩
theorem ExL.below(h:ExL p W b5 x cs q wr)(hb:Below wr.heap.size wr w'):ExL p W b5 x cs q w':=h.next (Off.of_below hb) (h.at_.later hb)
theorem ExL.put{i0:Nat}{z0 z1 z2 z3 z4 z5 y0 y1 y2 y3 y4 y5:Value}(h:ExL p W b5 x [z0,z1,z2,z3,z4,z5] q wr)(hW:p.At W i0)(hx:bV (fun b=>W.heap.size<b/\b≠b5) wr y [y0,y1,y2,y3,y4,y5]):
  ExL p W b5 y [y0,y1,y2,y3,y4,y5] q (wr.setRow b5 #[y0,y1,y2,y3,y4,y5]):=by
 have o:=row_off wr b5 #[y0,y1,y2,y3,y4,y5];have hb:=h.b5;exact⟨Off.fresh ((h.off.or _).trans (o.mono fun b pR=>.inr YJ)) (Nat.le_refl _),o.heap VG h.res,setRow_heap _ _ _ _ _ _ h.loc,aG.off hx o (fun b pR hn=>hn.2 pR),hb,h.pb,hW.above h.at_ (o.mono fun b pR=>YJ)⟩
end
section
variable {l:List Tok} {rec:RecP} {form own F q:Nat} {e:Xp}
theorem dots_no(h:isP l q kDot=false):oD l (F+1) e q=.ok (e,q):=by rw[oD,if_neg (by rw[h];simp)]
theorem dots_yes(h:isP l q kDot=true):oD l (F+1) e q=(fP l (q+1)).bnd fun s j=>oD l F (.mk 14 0 s noB [] [e]) j:=by rw[oD,if_pos h]
theorem ops_none(h:operAt l q=none):opsP l rec form (F+1) own e q=.ok (e,q):=by rw[opsP,h]
theorem ops_stop{t:ByteArray}{op:Int}{fm:Nat}(h:operAt l q=some (t,op,fm))(hc:fm<form\/own<fm\/(own=4/\fm=4)):opsP l rec form (F+1) own e q=.ok (e,q):=by rw[opsP,h];simp only;rw[if_pos hc]
theorem ops_on{t:ByteArray}{op:Int}{fm:Nat}(h:operAt l q=some (t,op,fm))(hc:¬(fm<form\/own<fm\/(own=4/\fm=4))):opsP l rec form (F+1) own e q=(rec (fm+1) (q+1)).bnd fun b j=>opsP l rec form F fm (.mk op 0 noB noB [] [e,b]) j:=by rw[opsP,h];simp only;rw[if_neg hc]
end
def opSeen(l:List Tok)(q k:Nat):ByteArray×Int×Nat:=((nD.take k).find? fun o=>isP l q o.1).getD (⟨#[]⟩,0,0)
theorem opSeen_all(l:List Tok)(q:Nat):opSeen l q 7=(operAt l q).getD (⟨#[]⟩,0,0):=rfl
theorem opSeen_no{l:List Tok}{q k:Nat}{o:ByteArray×Int×Nat}(hk:nD[k]? =some o)(hn:isP l q o.1=false):opSeen l q (k+1)=opSeen l q k:=by
 unfold opSeen;rw[List.take_add_one,hk,List.find?_append];simp[hn]
theorem opSeen_yes{l:List Tok}{q k:Nat}{o:ByteArray×Int×Nat}(hk:nD[k]? =some o)(hy:isP l q o.1=true):opSeen l q (k+1)=o:=by
 unfold opSeen;rw[List.take_add_one,hk,List.find?_append]
 cases hf:(nD.take k).find? fun o=>isP l q o.1 with
 |none=>simp[hy]
 |some y=>
  have AA:=List.find?_some hf;have hm:=List.mem_of_find?_eq_some hf;obtain⟨a,ha⟩:=List.mem_iff_getElem?.1 hm
  have pT:a<k:=by
   have:=(List.getElem?_eq_some_iff.1 ha).1;simp at this;omega
  rw[List.getElem?_take,if_pos pT] at ha;have:=opers_one ha hk AA hy;omega
theorem opers_at{k:Nat}{t:ByteArray}{op:Int}{fm:Nat}(hk:nD[k]? =some (t,op,fm)):nX[k*3]? =some (.string t)/\nX[k*3+1]? =some (.int .i64 op)/\nX[k*3+2]? =some (.int .i64 (fm:Int)):=by
 have h7:k<7:=(List.getElem?_eq_some_iff.1 hk).1
 match k,h7,hk with
 |0,_,hk=>cases hk;exact⟨rfl,rfl,rfl⟩
 |1,_,hk=>cases hk;exact⟨rfl,rfl,rfl⟩
 |2,_,hk=>cases hk;exact⟨rfl,rfl,rfl⟩
 |3,_,hk=>cases hk;exact⟨rfl,rfl,rfl⟩
 |4,_,hk=>cases hk;exact⟨rfl,rfl,rfl⟩
 |5,_,hk=>cases hk;exact⟨rfl,rfl,rfl⟩
 |6,_,hk=>cases hk;exact⟨rfl,rfl,rfl⟩
theorem operAt_ok{l:List Tok}{q:Nat}{t:ByteArray}{op:Int}{fm:Nat}(h:operAt l q=some (t,op,fm)):¬t=⟨#[]⟩/\fm<=6/\isP l q t=true:=by
 have hm:=List.mem_of_find?_eq_some h;have hp:=List.find?_some h;refine⟨?_,?_,hp⟩
 ·simp only[nD,List.mem_cons,List.not_mem_nil,or_false,Prod.mk.injEq] at hm;rcases hm with⟨rfl,-,-⟩|⟨rfl,-,-⟩|⟨rfl,-,-⟩|⟨rfl,-,-⟩|⟨rfl,-,-⟩|⟨rfl,-,-⟩|⟨rfl,-,-⟩<;>decide
 ·simp only[nD,List.mem_cons,List.not_mem_nil,or_false,Prod.mk.injEq] at hm;rcases hm with⟨-,-,rfl⟩|⟨-,-,rfl⟩|⟨-,-,rfl⟩|⟨-,-,rfl⟩|⟨-,-,rfl⟩|⟨-,-,rfl⟩|⟨-,-,rfl⟩<;>decide
theorem bx3{w:World}{b:Nat}{x0 x1 x2:Value}{t:TypeId}(h:w.heap[b]? =some (.cells #[x0,x1,x2] t)):
  (w.cell? ⟨b,0,none⟩=some x0/\w.cell? ⟨b,1,none⟩=some x1/\w.cell? ⟨b,2,none⟩=some x2)/\(w.frozen? ⟨b,0,none⟩=false/\w.frozen? ⟨b,1,none⟩=false/\w.frozen? ⟨b,2,none⟩=false):=
 ⟨⟨(bx h 0 rfl).1,(bx h 1 rfl).1,(bx h 2 rfl).1⟩,(bx h 0 (u:=x0) rfl).2,(bx h 1 (u:=x1) rfl).2,(bx h 2 (u:=x2) rfl).2⟩
structure OpI (p:Prs) (W:World) (b5:Nat) (x:Xp) (cs:List Value) (q g:Nat) (seen:ByteArray×Int×Nat) (wr:World):Prop where
 ex:ExL p W b5 x cs q wr
 xc:wr.heap[g]? =some (.cells #[.string seen.1,.int .i64 seen.2.1,.int .i64 (seen.2.2:Int)] 280)
 oc:wr.heap[g+1]? =some (.cells nX.toArray 280)
 lt:b5<g
 en:bV (fun b=>W.heap.size<b/\b≠b5/\b<g) wr x cs
theorem ExL.search{p:Prs}{W wr:World}{b5 q:Nat}{x:Xp}{cs:List Value}(h:ExL p W b5 x cs q wr):
  OpI p W b5 x cs q wr.heap.size (⟨#[]⟩,0,0) ((wr.alloc (.cells #[.string ⟨#[]⟩,.int .i64 0,.int .i64 0] 280)).alloc (.cells nX.toArray 280)):=by
 have b1:=aA wr (.cells #[.string ⟨#[]⟩,.int .i64 0,.int .i64 0] 280);have b2:=aA (wr.alloc (.cells #[.string ⟨#[]⟩,.int .i64 0,.int .i64 0] 280)) (.cells nX.toArray 280);have hz:=(Array.getElem?_eq_some_iff.1 h.loc).1;have hn:=heap_alloc_new (wr.alloc (.cells #[.string ⟨#[]⟩,.int .i64 0,.int .i64 0] 280)) (.cells nX.toArray 280);rw[show(wr.alloc (.cells #[.string ⟨#[]⟩,.int .i64 0,.int .i64 0] 280)).heap.size=wr.heap.size+1 by simp] at hn;exact⟨(h.below b1).below b2,aF b2 (heap_alloc_new wr _),hn,hz,aG _ _ _ _ _ _ (fun b hb hl=>⟨⟨hb.1,hb.2,hl⟩,fun o u hu=>aC (aB b1 b2) hu⟩) h.enc⟩
section
variable {p:Prs} {W wr w':World} {b5 q g:Nat} {x:Xp} {cs:List Value} {seen:ByteArray×Int×Nat}
theorem OpI.below(h:OpI p W b5 x cs q g seen wr)(hb:Below wr.heap.size wr w'):OpI p W b5 x cs q g seen w':=⟨h.ex.below hb,aF hb h.xc,aF hb h.oc,h.lt,aG _ _ _ _ _ _ (bM.later hb) h.en⟩
theorem OpI.put{i0:Nat}{t:ByteArray}{op:Int}{fm:Nat}(h:OpI p W b5 x cs q g seen wr)(hW:p.At W i0):OpI p W b5 x cs q g (t,op,fm) (((wr.setCell ⟨g,0,none⟩ (.string t)).setCell ⟨g,1,none⟩ (.int .i64 op)).setCell ⟨g,2,none⟩ (.int .i64 (fm:Int))):=by
 have o:Off (fun b=>b=g) wr (((wr.setCell ⟨g,0,none⟩ (.string t)).setCell ⟨g,1,none⟩ (.int .i64 op)).setCell ⟨g,2,none⟩ (.int .i64 (fm:Int))):=(((Off.setCell (b:=g) wr rfl).trans (Off.setCell _ rfl)).trans (Off.setCell _ rfl)).mono fun b hb=>Eq.symm hb;have hb:=h.ex.b5;have hl:=h.lt;have hc:=h.xc;have IU:=aG.off h.en o fun b pR hn=>by have pR:b=g:=pR;have:=hn.2.2;omega
 refine⟨⟨Off.fresh ((h.ex.off.or _).trans (o.mono fun b pR=>.inr (by have pR:b=g:=pR;omega))) (Nat.le_refl _),o.heap VG h.ex.res,o.heap VG h.ex.loc,?_,hb,h.ex.pb,hW.above h.ex.at_ (o.mono fun b pR=>by have pR:b=g:=pR;omega)⟩,?_,o.heap VG h.oc,hl,IU⟩
 ·exact aG.wide IU fun b rD _=>⟨rD.1,rD.2.1⟩
 ·rw[aO (aO (aO hc _) _) _];rfl
end
theorem bB{t:ByteArray}(h:t.toList=[]):t=⟨#[]⟩:=by
 have h1:=cE t ⟨#[]⟩;rw[h,toList_nil (s:=⟨#[]⟩) rfl] at h1;exact of_decide_eq_true h1.symm
theorem prefix_own{l:List Tok}{rec:RecP}{form i j:Nat}{r:Xp×Nat}(h:cL l rec form i=.ok (r,j)):r.2<=8:=by
 unfold cL at h;split at h
 ·exact UA
 ·split at h
  ·exact UA
  ·split at h
   ·obtain⟨_,_,-,h⟩:=PR.of_bnd h;obtain⟨_,_,-,h⟩:=PR.of_bnd h;cases h;exact Nat.zero_le _
   ·split at h
    ·obtain⟨_,_,-,h⟩:=PR.of_bnd h;cases h;show 3<=8;decide
    ·obtain⟨_,_,-,h⟩:=PR.of_bnd h;cases h;show 8<=8;decide
end Go.Proofs.YtacgopankhpnbaaGreatDoor
namespace Go.Proofs.YtacgopankhpnbaaGreatDoor
open Go.RowKit
theorem SC{p:Prop}(h:p:=by
 have FE:=isP_lt HI.out.ex.at_ htq;have b1:=HI.out.ex.at_.box1;have Q3:=HI.out.ex.at_.froz;have H4:=HI.out.ex.at_.bound;have rE:=HI.out.ex.at_.step FE;have P7:wr.heap.size≠p.pb:=by have:=HI.out.ex.pb;have:=HI.out.ex.b5;have:=HI.out.lt;omega
 go_wp2_with fail;have vN:Hid (ExL p w b5 x [.int .i64 op,.int .i64 n,.string s,.string m,.slice a1 n1 c1,.slice a2 n2 c2] (q+1) (w2.setCell ⟨p.pb,1,none⟩ (.int .i64 ((q:Int)+1)))):=zh (HI.out.ex.next rE.2 rE.1);have uC:Hid ((w2.setCell ⟨p.pb,1,none⟩ (.int .i64 ((q:Int)+1))).heap[wr.heap.size]? =some (.cells #[.string t2,.int .i64 uB,.int .i64 (vQ:Int)] 280)):=zh (rE.2.heap (fun e=>P7 e) HI.out.xc);have SB:Hid (p.At (w2.setCell ⟨p.pb,1,none⟩ (.int .i64 ((q:Int)+1))) (q+1)):=zh rE.1;have hq5:=HB.out.1;have hq6:=HB.out.2;clear rE b1 Q3 k0 k1 k2 j0 j1 j2 sJ HI pZ hte htq htn;generalize (w2.setCell ⟨p.pb,1,none⟩ (.int .i64 ((q:Int)+1)))=w4 at *;generalize wr.heap.size=g at *;have hgw:=(Array.getElem?_eq_some_iff.1 uC.out).1;refine wp_region_held_drew (S:=(fun W=>W.heap[g]? =some (.cells #[.string t2,.int .i64 uB,.int .i64 (vQ:Int)] 280))) VH (aF (aE _) uC.out) fun hS=>?_;refine zt 0 (.pointer (some ⟨g,1,none⟩)) rfl (fun W hW=>VM) hS ?_;try simp only[zn]
 refine zt 1 (.int .i64 uB) rfl (fun W hW=>by(obtain⟨⟨k0,k1,k2⟩,j0,j1,j2⟩:=bx3 hW);go_simp) hS ?_;try simp only[zn]
 refine zt 3 (.pointer (some ⟨p.pb,0,none⟩)) rfl (fun W hW=>VM) hS ?_;try simp only[zn]
 refine zt 4 (.pointer (some ⟨g,2,none⟩)) rfl (fun W hW=>VM) hS ?_;try simp only[zn]
 refine zt 5 (.int .i64 (vQ:Int)) rfl (fun W hW=>by(obtain⟨⟨k0,k1,k2⟩,j0,j1,j2⟩:=bx3 hW);go_simp) hS ?_;try simp only[zn]
 refine zt 6 (.int .i64 ((vQ:Int)+1)) rfl (fun W hW=>by have hfmw:IntKind.i64.wrap ((vQ:Int)+1)=(vQ:Int)+1:=WK;go_simp) hS ?_;try simp only[zn]
 refine wpAnyH_ready (rs:=[2,7]) VH VL ?_;refine AllReadyH.cons rfl (fun K hK=>?_) (AllReadyH.cons rfl (fun K hK=>?_) AllReadyH.nil)
 ·rw[if_pos VH];try simp only[z1,z2,z3]
  refine xp_load b5 (vN.out.below (aE _)).loc _ rfl rfl ?_;refine hK.out _ _ (hS) (fun hS=>?_);clear hK K;try simp only[zn]
  refine zr 7 rfl (fun K hK=>?_);try simp only[z1,z2,z3]
  go_simp;refine(HE.out (vQ+1) (q+1) w4.drew (SB.out.later (aE _)) VG VG).mono ?_;rintro e w5 (⟨x5,rK,rfl,qB⟩|⟨xb,jb,rK,⟨⟨opc,nc,sc,mc,pc,qc,rc,tc,uc,vc,rfl,xJ⟩,sN,FP⟩,qB⟩)
  ·go_wp2_with fail;exact⟨rfl,Ran.bad' (vT.out.trans (PR.bnd_bad rK)) (vN.out.off.trans ((Off.of_below (aE _)).trans qB))⟩
  ·have tS:=zh ((vN.out.below (aE _)).next qB sN);have R9:=zh xJ;have EC:=zh (vT.out.trans (PR.bnd_ok rK));have xT:w4.heap.size<=w5.heap.size:=qB.size;have QV:=qB.heap (show g≠p.pb from VG) hS;clear sN qB xJ rK;refine hK.out _ _ (QV) (fun hS=>?_);clear hK K;(try simp only[zn]);have wX:=zh (tS.out.below (aA w5 (.cells #[.int .i64 op,.int .i64 n,.string s,.string m,.slice a1 n1 c1,.slice a2 n2 c2,.int .i64 opc,.int .i64 nc,.string sc,.string mc,.slice pc qc rc,.slice tc uc vc] 177)));have EH:=zh (wX.out.put HW.out (y:=.mk uB 0 noB noB [] [x,xb]) (y0:=.int .i64 uB) (y1:=.int .i64 0) (y2:=.string ⟨#[]⟩) (y3:=.string ⟨#[]⟩) (y4:=.slice none 0 0) (y5:=.slice (some ⟨w5.heap.size,0,none⟩) 2 2) VO);refine zr 8 rfl (fun K hK=>?_);(try simp only[z1,z2,z3]);refine xp_slice2 _ _ rfl rfl rfl ?_;refine hK.out _ _ (aF (aA w5 _) hS) (fun hS=>?_);clear hK K;(try simp only[zn]);refine zt 9 (.agg #[.int .i64 uB,.int .i64 0,.string ⟨#[]⟩,.string ⟨#[]⟩,.slice none 0 0,.slice (some ⟨w5.heap.size,0,none⟩) 2 2]) rfl (fun W hW=>VM) hS ?_;(try simp only[zn]);refine zr 10 rfl (fun K hK=>?_);(try simp only[z1,z2,z3]);refine mY b5 wX.out.loc _ _ rfl rfl rfl VX ?_;refine hK.out _ _ ((setRow_other _ _ _ _ VG).trans hS) (fun hS=>?_);clear hK K;(try simp only[zn]);refine wpAnyH_done VH ?_ _;clear wX HE;have HS:=zh hS;have HQ:=zh HLq.out;generalize World.setRow (w5.alloc (.cells #[.int .i64 op,.int .i64 n,.string s,.string m,.slice a1 n1 c1,.slice a2 n2 c2,.int .i64 opc,.int .i64 nc,.string sc,.string mc,.slice pc qc rc,.slice tc uc vc] 177)) b5 #[.int .i64 uB,.int .i64 0,.string ⟨#[]⟩,.string ⟨#[]⟩,.slice none 0 0,.slice (some ⟨w5.heap.size,0,none⟩) 2 2]=w6 at *;clear hS;obtain⟨⟨k0,k1,k2⟩,j0,j1,j2⟩:=bx3 HS.out;go_wp2_with fail;go_roundw
   case rel=>
    obtain⟨F',sU⟩:∃F',F=F'+1:=⟨F-1,by have:=HB.out.1;have:=FE;omega⟩;subst sU;exact⟨jb,F',vQ,_,uB,0,⟨#[]⟩,⟨#[]⟩,none,0,0,some ⟨w5.heap.size,0,none⟩,2,2,rfl,VG,EH,EC,zh ⟨by have:=HB.out;omega,by have:=HB.out;omega⟩⟩
   case measure=>
    have h1:=EH.out.at_.pos;have h2:=EH.out.at_.lt;rw[h1,HQ.out];omega
 ·rw[if_pos VH];try simp only[z1,z2,z3]
  go_simp;refine(HE.out (vQ+1) (q+1) w4.drew (SB.out.later (aE _)) VG VG).mono ?_;rintro e w5 (⟨x5,rK,rfl,qB⟩|⟨xb,jb,rK,⟨⟨opc,nc,sc,mc,pc,qc,rc,tc,uc,vc,rfl,xJ⟩,sN,FP⟩,qB⟩)
  ·go_wp2_with fail;exact⟨rfl,Ran.bad' (vT.out.trans (PR.bnd_bad rK)) (vN.out.off.trans ((Off.of_below (aE _)).trans qB))⟩
  ·have tS:=zh ((vN.out.below (aE _)).next qB sN);have R9:=zh xJ;have EC:=zh (vT.out.trans (PR.bnd_ok rK));have xT:w4.heap.size<=w5.heap.size:=qB.size;have QV:=qB.heap (show g≠p.pb from VG) hS;clear sN qB xJ rK;refine hK.out _ _ (QV) (fun hS=>?_);clear hK K;(try simp only[zn]);refine zr 2 rfl (fun K hK=>?_);(try simp only[z1,z2,z3]);refine xp_load b5 tS.out.loc _ rfl rfl ?_;refine hK.out _ _ (hS) (fun hS=>?_);clear hK K;(try simp only[zn]);have wX:=zh (tS.out.below (aA w5 (.cells #[.int .i64 op,.int .i64 n,.string s,.string m,.slice a1 n1 c1,.slice a2 n2 c2,.int .i64 opc,.int .i64 nc,.string sc,.string mc,.slice pc qc rc,.slice tc uc vc] 177)));have EH:=zh (wX.out.put HW.out (y:=.mk uB 0 noB noB [] [x,xb]) (y0:=.int .i64 uB) (y1:=.int .i64 0) (y2:=.string ⟨#[]⟩) (y3:=.string ⟨#[]⟩) (y4:=.slice none 0 0) (y5:=.slice (some ⟨w5.heap.size,0,none⟩) 2 2) VO);refine zr 8 rfl (fun K hK=>?_);(try simp only[z1,z2,z3]);refine xp_slice2 _ _ rfl rfl rfl ?_;refine hK.out _ _ (aF (aA w5 _) hS) (fun hS=>?_);clear hK K;(try simp only[zn]);refine zt 9 (.agg #[.int .i64 uB,.int .i64 0,.string ⟨#[]⟩,.string ⟨#[]⟩,.slice none 0 0,.slice (some ⟨w5.heap.size,0,none⟩) 2 2]) rfl (fun W hW=>VM) hS ?_;(try simp only[zn]);refine zr 10 rfl (fun K hK=>?_);(try simp only[z1,z2,z3]);refine mY b5 wX.out.loc _ _ rfl rfl rfl VX ?_;refine hK.out _ _ ((setRow_other _ _ _ _ VG).trans hS) (fun hS=>?_);clear hK K;(try simp only[zn]);refine wpAnyH_done VH ?_ _;clear wX HE;have HS:=zh hS;have HQ:=zh HLq.out;generalize World.setRow (w5.alloc (.cells #[.int .i64 op,.int .i64 n,.string s,.string m,.slice a1 n1 c1,.slice a2 n2 c2,.int .i64 opc,.int .i64 nc,.string sc,.string mc,.slice pc qc rc,.slice tc uc vc] 177)) b5 #[.int .i64 uB,.int .i64 0,.string ⟨#[]⟩,.string ⟨#[]⟩,.slice none 0 0,.slice (some ⟨w5.heap.size,0,none⟩) 2 2]=w6 at *;clear hS;obtain⟨⟨k0,k1,k2⟩,j0,j1,j2⟩:=bx3 HS.out;go_wp2_with fail;go_roundw
   case rel=>
    obtain⟨F',sU⟩:∃F',F=F'+1:=⟨F-1,by have:=HB.out.1;have:=FE;omega⟩;subst sU;exact⟨jb,F',vQ,_,uB,0,⟨#[]⟩,⟨#[]⟩,none,0,0,some ⟨w5.heap.size,0,none⟩,2,2,rfl,VG,EH,EC,zh ⟨by have:=HB.out;omega,by have:=HB.out;omega⟩⟩
   case measure=>
    have h1:=EH.out.at_.pos;have h2:=EH.out.at_.lt
    rw[h1,HQ.out];omega):p:=h
theorem SI{p:Prop}(h:p:=by
 refine hK.out _ _ trivial (fun hS=>?_);clear hK K;try simp only[zn]
 refine zr 3 rfl (fun K hK=>?_);try simp only[z1,z2,z3]
 refine xp_slice1 _ rfl rfl ?_;refine hK.out _ _ trivial (fun hS=>?_);clear hK K;try simp only[zn]
 have wX:=zh (vN.out.below (aA w4 (.cells #[.int .i64 op,.int .i64 n,.string s,.string m,.slice a1 n1 c1,.slice a2 n2 c2] 177)));have JQ:=zh (wX.out.put HW.out (y:=.mk 14 0 ns noB [] [x]) (y0:=.int .i64 14) (y1:=.int .i64 0) (y2:=.string ns) (y3:=.string ⟨#[]⟩) (y4:=.slice none 0 0) (y5:=.slice (some ⟨w4.heap.size,0,none⟩) 1 1) (by rw[aZ];exact⟨_,_,rfl,qX,VI,aK.nil _ _ _ _,(aK.of_block (N:=fun b=>w.heap.size<b/\b≠b5) (css:=[[.int .i64 op,.int .i64 n,.string s,.string m,.slice a1 n1 c1,.slice a2 n2 c2]]) (heap_alloc_new w4 _) X7 rfl VL (fun i y c hy hc=>by match i,hy,hc with|0,hy,hc=>(cases hy;cases hc;exact aG _ _ _ _ _ _ (bM.later (aA w4 _)) vN.out.enc)) rfl VI:aK 6 bV (fun b=>w.heap.size<b/\b≠b5) (w4.alloc (.cells #[.int .i64 op,.int .i64 n,.string s,.string m,.slice a1 n1 c1,.slice a2 n2 c2] 177)) (.slice (some ⟨w4.heap.size,0,none⟩) 1 1) [x])⟩));refine zt 4 (.agg #[.int .i64 14,.int .i64 0,.string ns,.string ⟨#[]⟩,.slice none 0 0,.slice (some ⟨w4.heap.size,0,none⟩) 1 1]) rfl (fun W hW=>VM) hS ?_;try simp only[zn]
 refine zr 5 rfl (fun K hK=>?_);try simp only[z1,z2,z3]
 refine mY b5 wX.out.loc _ _ rfl rfl rfl VX ?_;refine hK.out _ _ trivial (fun hS=>?_);clear hK K;try simp only[zn]
 refine wpAnyH_done VH ?_ _;clear wX hS HE;have vT:=zh (uG.out.trans (congrArg (fun z=>PR.bnd z _) (PR.bnd_ok uC.out)));have J1:=zh (fE uC.out);have HQ:=zh HL.out.at_.pos;clear uC pZ uG E6;generalize World.setRow (w4.alloc (.cells #[.int .i64 op,.int .i64 n,.string s,.string m,.slice a1 n1 c1,.slice a2 n2 c2] 177)) b5 #[.int .i64 14,.int .i64 0,.string ns,.string ⟨#[]⟩,.slice none 0 0,.slice (some ⟨w4.heap.size,0,none⟩) 1 1]=w5 at *;go_roundw
 case rel=>
  obtain⟨F',sU⟩:∃F',F=F'+1:=⟨F-1,WS⟩;subst sU;refine⟨_,_,_,_,_,_,_,_,_,_,_,⟨j4,F',_,14,0,ns,⟨#[]⟩,none,0,0,some ⟨w4.heap.size,0,none⟩,1,1,JQ,zh (vT.out.trans (congrArg (fun z=>PR.bnd z _) (if_pos pP).symm)),zh ⟨XJ,XJ⟩⟩,rfl⟩
 case measure=>
  have h1:=JQ.out.at_.pos;have h2:=JQ.out.at_.lt;have h3:=J1.out
  rw[h1,HQ.out];omega):p:=h
theorem SR{p:Prop}(h:p:=by
 obtain⟨⟨y0,y1,y2,y3,y4,y5⟩,h0,h1,h2,h3,h4,h5⟩:=bx6 HI.out.ex.loc;obtain⟨⟨r0,r1,r2,r3,r4,r5⟩,g0,g1,g2,g3,g4,g5⟩:=bx6 HI.out.ex.res;go_wp2_with fail;have hE:=gA HW.out HI.out.ex.off HI.out.ex.at_ HI.out.ex.enc (fun b hb=>hb.1);unfold gB at hE;refine bodyPost_ret (v:=.agg #[.int .i64 op,.int .i64 n,.string s,.string m,.slice a1 n1 c1,.slice a2 n2 c2]) (by simp[results,Tryz.results188,go_sem,r0,r1,r2,r3,r4,r5]) rfl ?_
 exact Ran.good HR.out ⟨⟨op,n,s,m,a1,n1,c1,a2,n2,c2,rfl,hE.1⟩,hE.2.1,HJ.out⟩ hE.2.2):p:=h
theorem U1{p:Prop}(h:p:=by
 go_wp2_with fail
 exact⟨rfl,Ran.bad' (uG.out.trans (PR.bnd_bad (PR.bnd_bad sI))) ((zV.out.below (aE _)).off.trans pW)⟩):p:=h
theorem exp_step(p:Prs)(f:Nat)(hE:fX p f)(hP:PrimOk p f)(form i:Nat)(w:World)(h:p.At w i)(hf:form<=9)(sE:p.l.length<f+1+i):Calls Tryz.prog 188 #[.pointer (some ⟨p.pb,0,none⟩),.int .i64 (form:Int)] w
  (Ran p.S w (bQ p.l (f+1) form i) fun x j e w'=>oK w.heap.size x e w'/\p.At w' j/\i<=j):=by
 have HE:=zh hE;have HW:=zh h;have hlen:=h.len;have tZ:=h.blt;have pQ:w.heap.size≠p.pb:=VG;have HR:Hid (bQ p.l (f+1) form i=(cL p.l (bQ p.l f) form i).bnd fun r j=>(if 7<=r.2 then oD p.l (p.l.length+1) r.1 j else .ok (r.1,j)).bnd fun e k=>opsP p.l (bQ p.l f) form (p.l.length+1) r.2 e k):=zh (by rw[bQ]);have HPr:=zh (prefix_any p f hE hP (w.alloc (.cells bH 177)) form i (h.later (aA _ _)) hf VG);have rF:(w.alloc (.cells bH 177)).heap.size=w.heap.size+1:=VL;clear h hE hP;go_enter Tryz.func188,Tryz.ntmps188;go_wp2_with(go_at_call 218;refine HPr.out.mono ?_;rintro e w2 (⟨x2,rA,rfl,pU⟩|⟨r,j2,rA,⟨⟨op,n,s,m,a1,n1,c1,a2,n2,c2,rfl,hex⟩,qL,yN⟩,pU⟩))
 ·exact⟨rfl,Ran.bad' (HR.out.trans (PR.bnd_bad rA)) ((Off.of_below (aA _ _)).trans pU)⟩
 ·have qH:=pU.size;have HL0:Hid (ExL p w w2.heap.size r.1 [.int .i64 op,.int .i64 n,.string s,.string m,.slice a1 n1 c1,.slice a2 n2 c2] j2 (w2.alloc (.cells #[.int .i64 op,.int .i64 n,.string s,.string m,.slice a1 n1 c1,.slice a2 n2 c2] 177))):=zh ⟨((Off.of_below (aA _ _)).trans pU).trans (Off.of_below (aA _ _)),aF (aA _ _) (pU.heap pQ (heap_alloc_new w _)),heap_alloc_new w2 _,aG _ _ _ _ _ _ (fun b hb hl=>⟨⟨by have hb:(w.alloc (.cells bH 177)).heap.size<=b:=hb;omega,VG⟩,fun o u hu=>aC (aA _ _) hu⟩) hex,VG,tZ,qL.later (aA _ _)⟩;have RH:=zh (HR.out.trans (PR.bnd_ok rA));have hr8:=prefix_own rA;clear hex qL pU rA HPr HR;obtain⟨x0,own⟩:=r;simp only at HL0 RH hr8;have hb5:w.heap.size<w2.heap.size:=VG;generalize w2.heap.size=b5 at *;go_loopw [16] (fun sl wr=>∃(q F:Nat)(x:Xp)(op n:Int)(s m:ByteArray)(a1:Option Addr)(n1 c1:Nat)(a2:Option Addr)(n2 c2:Nat),Hid (ExL p w b5 x [.int .i64 op,.int .i64 n,.string s,.string m,.slice a1 n1 c1,.slice a2 n2 c2] q wr)/\Hid (bQ p.l (f+1) form i=(if 7<=own then oD p.l (F+1) x q else .ok (x,q)).bnd fun e k=>opsP p.l (bQ p.l f) form (p.l.length+1) own e k)/\Hid (p.l.length<=F+q/\i<=q)) (fun _ wr=>p.l.length-posOf wr p.pb)
  case atStart=>exact⟨j2,p.l.length,x0,op,n,s,m,a1,n1,c1,a2,n2,c2,HL0,RH,zh ⟨VG,yN⟩⟩
  case round=>
   obtain⟨q,F,x,op,n,s,m,a1,n1,c1,a2,n2,c2,HL,pZ,HB⟩:=hrel;(rename World=>wr);by_cases pP:7<=own
   focus
    have tM:¬(own:Int)<7:=VG;have wZ:(7:Int)<=(own:Int):=VG;rcases Bool.eq_false_or_eq_true (isP p.l q kDot) with hqd|hqd
    focus
     ·skip;have hl:=isP_lt HL.out.at_ hqd;have uG:=zh (pZ.out.trans (congrArg (fun z=>PR.bnd z _) ((if_pos pP).trans (dots_yes hqd))));go_wp2_with(go_at_call 141;refine(eX p wr q kDot HL.out.at_ hqd).mono ?_;rintro e w3 ⟨rfl,rY,pY⟩);have zV:=zh (HL.out.next pY rY);clear rY pY;refine wp_region_held_drew (S:=(fun _=>True)) VH trivial fun hS=>?_;refine zt 0 (.pointer (some ⟨p.pb,0,none⟩)) rfl (fun W hW=>VM) hS ?_;(try simp only[zn]);refine wpAnyH_ready (rs:=[1,2]) VH VL ?_;refine AllReadyH.cons rfl (fun K hK=>?_) (AllReadyH.cons rfl (fun K hK=>?_) AllReadyH.nil)
      ·rw[if_pos VH];(try simp only[z1,z2,z3]);go_simp;refine(eU p w3.drew (q+1) (zV.out.below (aE _)).at_).mono ?_;rintro e w4 (⟨x4,sI,rfl,pW⟩|⟨ns,j4,sI,⟨rfl,rR,qX⟩,pW⟩)
       ·exact U1
       ·have vN:=zh ((zV.out.below (aE _)).next pW rR);have uC:=zh sI;have E6:=zh pW;clear rR pW sI;have IV:b5<w4.heap.size:=(Array.getElem?_eq_some_iff.1 vN.out.loc).1;have PA:=vN.out.b5;refine hK.out _ _ trivial (fun hS=>?_);clear hK K;(try simp only[zn]);refine zr 2 rfl (fun K hK=>?_);(try simp only[z1,z2,z3]);refine xp_load b5 vN.out.loc _ rfl rfl ?_;exact SI
      ·rw[if_pos VH];(try simp only[z1,z2,z3]);refine xp_load b5 (zV.out.below (aE _)).loc _ rfl rfl ?_;refine hK.out _ _ trivial (fun hS=>?_);clear hK K;(try simp only[zn]);refine wpAnyH_ready (rs:=[1,3]) VH VL ?_;refine AllReadyH.cons rfl (fun K hK=>?_) (AllReadyH.cons rfl (fun K hK=>?_) AllReadyH.nil)
       ·rw[if_pos VH];(try simp only[z1,z2,z3]);go_simp;refine(eU p w3.drew (q+1) (zV.out.below (aE _)).at_).mono ?_;rintro e w4 (⟨x4,sI,rfl,pW⟩|⟨ns,j4,sI,⟨rfl,rR,qX⟩,pW⟩)
        ·exact U1
        ·have vN:=zh ((zV.out.below (aE _)).next pW rR);have uC:=zh sI;have E6:=zh pW;clear rR pW sI;have IV:b5<w4.heap.size:=(Array.getElem?_eq_some_iff.1 vN.out.loc).1;have PA:=vN.out.b5;exact SI
       ·rw[if_pos VH];(try simp only[z1,z2,z3]);refine xp_slice1 _ rfl rfl ?_;refine hK.out _ _ trivial (fun hS=>?_);clear hK K;(try simp only[zn]);refine zr 1 rfl (fun K hK=>?_);(try simp only[z1,z2,z3]);go_simp;refine(eU p (w3.drew.alloc (.cells #[.int .i64 op,.int .i64 n,.string s,.string m,.slice a1 n1 c1,.slice a2 n2 c2] 177)) (q+1) (zV.out.below (aB (aE w3) (aA w3.drew (.cells #[.int .i64 op,.int .i64 n,.string s,.string m,.slice a1 n1 c1,.slice a2 n2 c2] 177)))).at_).mono ?_;rintro e w4 (⟨x4,sI,rfl,pW⟩|⟨ns,j4,sI,⟨rfl,rR,qX⟩,pW⟩)
        ·go_wp2_with fail;exact⟨rfl,Ran.bad' (uG.out.trans (PR.bnd_bad (PR.bnd_bad sI))) ((zV.out.below (aB (aE w3) (aA w3.drew (.cells #[.int .i64 op,.int .i64 n,.string s,.string m,.slice a1 n1 c1,.slice a2 n2 c2] 177)))).off.trans pW)⟩
        ·have vN:=zh ((zV.out.below (aB (aE w3) (aA w3.drew (.cells #[.int .i64 op,.int .i64 n,.string s,.string m,.slice a1 n1 c1,.slice a2 n2 c2] 177)))).next pW rR);have uC:=zh sI;have E6:=zh pW;clear rR pW sI;have hrow4:=E6.out.heap (show w3.drew.heap.size≠p.pb from fun e=>by have:=zV.out.at_.blt;have e:w3.heap.size=p.pb:=e;omega) (heap_alloc_new w3.drew (.cells #[.int .i64 op,.int .i64 n,.string s,.string m,.slice a1 n1 c1,.slice a2 n2 c2] 177));have hdz:w3.drew.heap.size=w3.heap.size:=rfl;have IV:b5<w3.heap.size:=(Array.getElem?_eq_some_iff.1 zV.out.loc).1;have PA:=vN.out.b5;refine hK.out _ _ trivial (fun hS=>?_);clear hK K;(try simp only[zn]);have wX:=zh (vN.out);have JQ:=zh (wX.out.put HW.out (y:=.mk 14 0 ns noB [] [x]) (y0:=.int .i64 14) (y1:=.int .i64 0) (y2:=.string ns) (y3:=.string ⟨#[]⟩) (y4:=.slice none 0 0) (y5:=.slice (some ⟨w3.drew.heap.size,0,none⟩) 1 1) (by rw[aZ];exact⟨_,_,rfl,qX,VI,aK.nil _ _ _ _,(aK.of_block (N:=fun b=>w.heap.size<b/\b≠b5) (css:=[[.int .i64 op,.int .i64 n,.string s,.string m,.slice a1 n1 c1,.slice a2 n2 c2]]) (hrow4) X7 rfl VL (fun i y c hy hc=>by match i,hy,hc with|0,hy,hc=>(cases hy;cases hc;exact vN.out.enc)) rfl VI:aK 6 bV (fun b=>w.heap.size<b/\b≠b5) w4 (.slice (some ⟨w3.drew.heap.size,0,none⟩) 1 1) [x])⟩));refine zt 4 (.agg #[.int .i64 14,.int .i64 0,.string ns,.string ⟨#[]⟩,.slice none 0 0,.slice (some ⟨w3.drew.heap.size,0,none⟩) 1 1]) rfl (fun W hW=>VM) hS ?_;(try simp only[zn]);refine zr 5 rfl (fun K hK=>?_);(try simp only[z1,z2,z3]);refine mY b5 wX.out.loc _ _ rfl rfl rfl VX ?_;refine hK.out _ _ trivial (fun hS=>?_);clear hK K;(try simp only[zn]);refine wpAnyH_done VH ?_ _;clear wX hS HE;have vT:=zh (uG.out.trans (congrArg (fun z=>PR.bnd z _) (PR.bnd_ok uC.out)));have J1:=zh (fE uC.out);have HQ:=zh HL.out.at_.pos;clear uC pZ uG E6;generalize World.setRow w4 b5 #[.int .i64 14,.int .i64 0,.string ns,.string ⟨#[]⟩,.slice none 0 0,.slice (some ⟨w3.drew.heap.size,0,none⟩) 1 1]=w5 at *;go_roundw
         case rel=>
          obtain⟨F',sU⟩:∃F',F=F'+1:=⟨F-1,WS⟩;subst sU;refine⟨_,_,_,_,_,_,_,_,_,_,_,⟨j4,F',_,14,0,ns,⟨#[]⟩,none,0,0,some ⟨w3.drew.heap.size,0,none⟩,1,1,JQ,zh (vT.out.trans (congrArg (fun z=>PR.bnd z _) (if_pos pP).symm)),zh ⟨XJ,XJ⟩⟩,rfl⟩
         case measure=>
          have h1:=JQ.out.at_.pos;have h2:=JQ.out.at_.lt;have h3:=J1.out;rw[h1,HQ.out];omega
    have RG:=zh (pZ.out.trans (congrArg (fun z=>PR.bnd z _) ((if_pos pP).trans (dots_no hqd))));go_wp2_with(go_at_call 141;refine(aX p wr q kDot HL.out.at_ hqd).mono ?_;rintro e w3 ⟨rfl,rY,pY⟩;have HLE:=zh (HL.out.next pY rY);clear rY pY)
   rotate_left
   focus
    have tM:(own:Int)<7:=VG;have RG:=zh (pZ.out.trans (congrArg (fun z=>PR.bnd z _) (if_neg pP)));have HLE:=HL;go_wp2_with fail
   all_goals
    have HSpO:Hid (bQ p.l (f+1) form i=opsP p.l (bQ p.l f) form (p.l.length+1) own x q):=zh RG.out;clear HL pZ RG HL0 RH;(go_loopw [6] (fun sl wr=>∃(q F own:Nat)(x:Xp)(op n:Int)(s m:ByteArray)(a1:Option Addr)(n1 c1:Nat)(a2:Option Addr)(n2 c2:Nat),sl=.int .i64 (own:Int)/\own<=8/\Hid (ExL p w b5 x [.int .i64 op,.int .i64 n,.string s,.string m,.slice a1 n1 c1,.slice a2 n2 c2] q wr)/\Hid (bQ p.l (f+1) form i=opsP p.l (bQ p.l f) form (F+1) own x q)/\Hid (p.l.length<=F+q/\i<=q)) (fun _ wr=>p.l.length-posOf wr p.pb));case atStart=>exact⟨q,p.l.length,own,x,op,n,s,m,a1,n1,c1,a2,n2,c2,rfl,hr8,HLE,HSpO,zh ⟨VG,HB.out.2⟩⟩
    case round=>
     clear HLE HSpO HB pP tM hr8;obtain⟨q,F,own,x,op,n,s,m,a1,n1,c1,a2,n2,c2,rfl,hr8,HL,pZ,HB⟩:=hrel;(rename World=>wr);have HI0:=zh HL.out.search;have HLq:=zh HL.out.at_.pos;have yO:=(Array.getElem?_eq_some_iff.1 HL.out.loc).1;have hb5w:=HL.out.b5;go_wp2_with(go_at_call 219;refine(operators_any _).mono ?_;rintro e w1 ⟨rfl,rfl⟩);(go_loopw [29] (fun sl w2=>∃k:Nat,k<=7/\sl=.int .i64 (k:Int)/\Hid (OpI p w b5 x [.int .i64 op,.int .i64 n,.string s,.string m,.slice a1 n1 c1,.slice a2 n2 c2] q wr.heap.size (opSeen p.l q k) w2)) (fun sl _=>7-(intOf sl).toNat));case atStart=>exact⟨0,VG,rfl,HI0⟩
     case round=>
      obtain⟨k,hk7,rfl,HI⟩:=hrel;(rename World=>w2);by_cases pT:k<7
      ··skip;obtain⟨⟨t,op1,fm⟩,hk⟩:∃o,nD[k]? =some o:=⟨_,List.getElem?_eq_getElem (show k<nD.length from pT)⟩;obtain⟨hc0,GR,rB⟩:=opers_at hk;have c0:=(bx HI.out.oc (k*3) (by simpa using hc0)).1;have c1:=(bx HI.out.oc (k*3+1) (by simpa using GR)).1;have c2:=(bx HI.out.oc (k*3+2) (by simpa using rB)).1;clear hc0 GR rB;have GA:=zh (HI.out.below (aA w2 (.cells #[.string t,.int .i64 op1,.int .i64 (fm:Int)] 280)));have HK:=zh hk
        cases hqt:isP p.l q t with
        |true=>
         go_wp2_with(go_at_call 133;refine(fI p _ q t GA.out.ex.at_).mono ?_;rintro e w3 ⟨rfl,rD⟩;rw[hqt];have HI3:=zh (GA.out.below rD);obtain⟨⟨d0,d1,d2⟩,-⟩:=bx3 (aF rD (heap_alloc_new w2 (.cells #[.string t,.int .i64 op1,.int .i64 (fm:Int)] 280)));obtain⟨⟨k0,k1,k2⟩,j0,j1,j2⟩:=bx3 HI3.out.xc);have KU:=zh (HI3.out.put HW.out (t:=t) (op:=op1) (fm:=fm));clear d0 d1 d2 k0 k1 k2 j0 j1 j2;go_roundw;(case rel=>exact⟨k+1,VG,VT,by rw[opSeen_yes HK.out hqt];exact KU⟩);case measure=>simp[intOf];omega
        |false=>
         go_wp2_with(go_at_call 133;refine(fI p _ q t GA.out.ex.at_).mono ?_;rintro e w3 ⟨rfl,rD⟩;rw[hqt];have HI3:=zh (GA.out.below rD));go_roundw;(case rel=>exact⟨k+1,VG,VT,by rw[opSeen_no HK.out hqt];exact HI3⟩);case measure=>simp[intOf];omega
      ·have hk:k=7:=VG;subst hk
       cases sJ:operAt p.l q with
       |none=>
        (have BR:opSeen p.l q 7=(⟨#[]⟩,0,0):=by rw[opSeen_all,sJ];rfl);rw[BR] at HI;have HR:=zh (pZ.out.trans (ops_none sJ));have HJ:=zh (show i<=q from HB.out.2);clear BR sJ pZ HB HI0 HLq HE;obtain⟨⟨k0,k1,k2⟩,j0,j1,j2⟩:=bx3 HI.out.xc;exact SR
       |some o=>
        obtain⟨t2,uB,vQ⟩:=o;(have BR:opSeen p.l q 7=(t2,uB,vQ):=by rw[opSeen_all,sJ];rfl);rw[BR] at HI;obtain⟨htn,hfm6,htq⟩:=operAt_ok sJ;(have hte:(t2.toList==[])=false:=by rw[beq_eq_false_iff_ne];intro e;exact htn (bB e));have HJ:=zh (show i<=q from HB.out.2);clear BR HI0;obtain⟨⟨k0,k1,k2⟩,j0,j1,j2⟩:=bx3 HI.out.xc;by_cases e1:vQ<form
        ·have HR:=zh (pZ.out.trans (ops_stop sJ (.inl e1)));clear sJ pZ HB HE;have e1':(vQ:Int)<(form:Int):=VG;exact SR
        ·have e1':¬(vQ:Int)<(form:Int):=VG;have e1'':(form:Int)<=(vQ:Int):=VG;by_cases e2:own<vQ
         ·have HR:=zh (pZ.out.trans (ops_stop sJ (.inr (.inl e2))));clear sJ pZ HB HE;have e2':(own:Int)<(vQ:Int):=VG;exact SR
         ·have e2':¬(own:Int)<(vQ:Int):=VG;have e2'':(vQ:Int)<=(own:Int):=VG;by_cases e3:own=4
          ·(have e3':((own:Int)==4)=true:=by rw[beq_iff_eq];omega);by_cases e4:vQ=4
           ·(have e4':((vQ:Int)==4)=true:=by rw[beq_iff_eq];omega);have HR:=zh (pZ.out.trans (ops_stop sJ (.inr (.inr ⟨e3,e4⟩))));clear sJ pZ HB HE e3 e4;exact SR
           ·have e4':((vQ:Int)==4)=false:=VQ;have vT:=zh (pZ.out.trans (ops_on sJ (fun h=>by rcases h with h|h|h<;>omega)));clear e3 e4;exact SC
          ·have e3':((own:Int)==4)=false:=VQ;have vT:=zh (pZ.out.trans (ops_on sJ (fun h=>by rcases h with h|h|h<;>omega)));exact SC
end Go.Proofs.YtacgopankhpnbaaGreatDoor
namespace Go.Proofs.YtacgopankhpnbaaGreatDoor
theorem exp_ok(p:Prs):∀f,fX p f
 |0=>fun form i w h hf sE=>by have:=h.lt;omega
 |f+1=>fun form i w h hf sE=>exp_step p f (exp_ok p f) (primary_ok p f (exp_ok p f) (record_any p f (exp_ok p f))) form i w h hf sE
theorem exp_all(p:Prs):ExpAll p:=ExpAll.of (exp_ok p)
end Go.Proofs.YtacgopankhpnbaaGreatDoor
