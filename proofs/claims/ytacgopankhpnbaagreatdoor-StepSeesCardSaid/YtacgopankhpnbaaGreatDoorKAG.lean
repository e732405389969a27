/- Texts of this seat, joined. -/
import Derived.Great.BuildSlice
import Derived.Test.YtacgopankhpnbaaGreatDoorKAF
set_option linter.unusedVariables false
set_option linter.unusedSimpArgs false
namespace Go.Proofs.YtacgopankhpnbaaGreatDoor
open Go.RowKit
section
variable {o:Oper} {a:Act} {w:World} {K:Act->World->Prop} {Q:Exit->Act->World->Prop}
theorem xpSize:(Tryz.prog.info? 177).map (·.size)=some 6:=vU
theorem xp_load(g:Nat){c0 c1 c2 c3 c4 c5:Value}(hg:w.heap[g]? =some (.cells #[c0,c1,c2,c3,c4,c5] 177))(x:Operand)(ho:o.op=.load 177 x)(hx:a.eval x=.pointer (some ⟨g,0,none⟩))
  (h:K (a.put o.dst (.agg #[c0,c1,c2,c3,c4,c5])) w):o.wp Tryz.prog a w K Q:=
 wp_load_row _ x ho g hx _ _ _ _ hg Tryz.underlying177 rfl xpSize h
theorem oC(g:Nat){z0 z1 z2 z3 z4 z5 c0 c1 c2 c3 c4 c5:Value}(hg:w.heap[g]? =some (.cells #[z0,z1,z2,z3,z4,z5] 177))(x y:Operand)(ho:o.op=.store 177 x y)(hx:a.eval x=.pointer (some ⟨g,0,none⟩))(hy:a.eval y=.agg #[c0,c1,c2,c3,c4,c5])(h1:#[c0,c1,c2,c3,c4,c5].all (·.oneCell')=true)
  (h:K (a.put o.dst undef) (w.setRow g #[c0,c1,c2,c3,c4,c5])):o.wp Tryz.prog a w K Q:=
 wp_store_row _ x y ho g _ hx hy _ _ hg xpSize rfl h1 h
theorem xp_slice1{c0 c1 c2 c3 c4 c5:Value}(x:Operand)(ho:o.op=.buildSlice 127 1 #[(0,x)])(hx:a.eval x=.agg #[c0,c1,c2,c3,c4,c5])
  (h:K (a.put o.dst (.slice (some ⟨w.heap.size,0,none⟩) 1 1)) (w.alloc (.cells #[c0,c1,c2,c3,c4,c5] 177))):o.wp Tryz.prog a w K Q:=by
 obtain⟨ie,hie,hz,hs,-⟩:=info_parts xpInfo;refine wp_buildSlice _ _ 1 _ ho #[c0,c1,c2,c3,c4,c5] ie _ Tryz.underlying127 hie hz (by rw[hs];decide) (by rw[hs];decide) ?_ h;rw[hs];simp only[List.map_toArray,List.map_cons,List.map_nil,hx]
 kernel_rfl
theorem xp_slice2{c0 c1 c2 c3 c4 c5 d0 d1 d2 d3 d4 d5:Value}(x y:Operand)(ho:o.op=.buildSlice 127 2 #[(0,x),(1,y)])(hx:a.eval x=.agg #[c0,c1,c2,c3,c4,c5])(hy:a.eval y=.agg #[d0,d1,d2,d3,d4,d5])
  (h:K (a.put o.dst (.slice (some ⟨w.heap.size,0,none⟩) 2 2)) (w.alloc (.cells #[c0,c1,c2,c3,c4,c5,d0,d1,d2,d3,d4,d5] 177))):o.wp Tryz.prog a w K Q:=by
 obtain⟨ie,hie,hz,hs,-⟩:=info_parts xpInfo;refine wp_buildSlice _ _ 2 _ ho #[c0,c1,c2,c3,c4,c5,d0,d1,d2,d3,d4,d5] ie _ Tryz.underlying127 hie hz (by rw[hs];decide) (by rw[hs];decide) ?_ h;rw[hs];simp only[List.map_toArray,List.map_cons,List.map_nil,hx,hy]
 kernel_rfl
end
theorem row_off(w:World)(g:Nat)(cs:Array Value):Off (fun b=>b=g) w (w.setRow g cs):=⟨rfl,rfl,rfl,vZ,fun k _ hn=>setRow_other w g k cs hn⟩
end Go.Proofs.YtacgopankhpnbaaGreatDoor
namespace Go.Proofs.YtacgopankhpnbaaGreatDoor
open Go.RowKit
theorem uB{p:Prop}(h:p:=by
 obtain⟨_,_,-,h⟩:=PR.of_bnd h;obtain⟨_,_,-,h⟩:=PR.of_bnd h;obtain⟨_,_,-,h⟩:=PR.of_bnd h;obtain⟨_,_,-,h⟩:=PR.of_bnd h;obtain⟨_,_,-,h⟩:=PR.of_bnd h;cases h;exact Nat.zero_le _):p:=h
def pJ:List Value:=(oL.map fun o=>[Value.string o.1,.int .i64 o.2.1,.int .i64 (o.2.2:Int)]).flatten
theorem operators_any(w:World):Calls Tryz.prog 219 #[] w fun e w'=>e=.returned (.slice (some ⟨w.heap.size,0,none⟩) 7 7)/\w'=w.alloc (.cells pJ.toArray 280):=by
 go_enter Tryz.func219,Tryz.ntmps219
 go_wp2
 go_ret;exact⟨rfl,rfl⟩
theorem opers_one{l:List Tok}{i a b:Nat}{x y:ByteArray×Int×Nat}(hx:oL[a]? =some x)(hy:oL[b]? =some y)(h1:isP l i x.1=true)(h2:isP l i y.1=true):a=b:=by
 unfold isP at h1 h2;simp only[Bool.and_eq_true,decide_eq_true_eq] at h1 h2;have e:x.1=y.1:=h1.2.symm.trans h2.2;have ha:=(List.getElem?_eq_some_iff.1 hx).1;have hb:=(List.getElem?_eq_some_iff.1 hy).1;have key:∀a b:Fin 7,(oL.map fun o=>o.1.data.toList)[a.1]? =(oL.map fun o=>o.1.data.toList)[b.1]? ->a=b:=vV;have ha7:a<7:=ha;have hb7:b<7:=hb;have:=key ⟨a,ha7⟩ ⟨b,hb7⟩ (by simp only[List.getElem?_map,hx,hy,Option.map_some,e]);exact congrArg Fin.val this
structure ExL (p:Prs) (W:World) (b5:Nat) (x:Xp) (cs:List Value) (q:Nat) (wr:World):Prop where
 off:Off p.S W wr
 res:wr.heap[W.heap.size]? =some (.cells bS 177)
 loc:wr.heap[b5]? =some (.cells cs.toArray 177)
 enc:cE (fun b=>W.heap.size<b/\b≠b5) wr x cs
 b5:W.heap.size<b5
 pb:p.pb<W.heap.size
 at_:p.At wr q
section
variable {p:Prs} {W wr w':World} {b5 q j:Nat} {x y:Xp} {cs:List Value}
theorem ExL.next(h:ExL p W b5 x cs q wr)(ho:Off p.S wr w')(ha:p.At w' j):ExL p W b5 x cs j w':=by
 have hpb:=h.pb;have hb:=h.b5;exact⟨h.off.trans ho,ho.heap (fun e=>by have e:W.heap.size=p.pb:=e;omega) h.res,ho.heap (fun e=>by have e:b5=p.pb:=e;omega) h.loc,aG.off h.enc ho (fun b hb2 hn=>by have hb2:b=p.pb:=hb2;have:=hn.1;omega),hb,hpb,ha⟩
theorem ExL.below(h:ExL p W b5 x cs q wr)(hb:Below wr.heap.size wr w'):ExL p W b5 x cs q w':=h.next (Off.of_below hb) (h.at_.later hb)
theorem ExL.put{i0:Nat}{z0 z1 z2 z3 z4 z5 y0 y1 y2 y3 y4 y5:Value}(h:ExL p W b5 x [z0,z1,z2,z3,z4,z5] q wr)(hW:p.At W i0)(hx:cE (fun b=>W.heap.size<b/\b≠b5) wr y [y0,y1,y2,y3,y4,y5]):
  ExL p W b5 y [y0,y1,y2,y3,y4,y5] q (wr.setRow b5 #[y0,y1,y2,y3,y4,y5]):=by
 have o:=row_off wr b5 #[y0,y1,y2,y3,y4,y5];have hb:=h.b5;exact⟨Off.fresh ((h.off.or _).trans (o.mono fun b hb2=>.inr AF)) (Nat.le_refl _),o.heap vT h.res,setRow_heap _ _ _ _ _ _ h.loc,aG.off hx o (fun b hb2 hn=>hn.2 hb2),hb,h.pb,hW.above h.at_ (o.mono fun b hb2=>AF)⟩
end
section
variable {l:List Tok} {rec:RecP} {form own F q:Nat} {e:Xp}
theorem dots_no(h:isP l q kDot=false):pO l (F+1) e q=.ok (e,q):=by rw[pO,if_neg (by rw[h];simp)]
theorem dots_yes(h:isP l q kDot=true):pO l (F+1) e q=(gL l (q+1)).bnd fun s j=>pO l F (.mk 14 0 s noB [] [e]) j:=by rw[pO,if_pos h]
theorem ops_none(h:operAt l q=none):opsP l rec form (F+1) own e q=.ok (e,q):=by rw[opsP,h]
theorem ops_stop{t:ByteArray}{op:Int}{fm:Nat}(h:operAt l q=some (t,op,fm))(hc:fm<form\/own<fm\/(own=4/\fm=4)):opsP l rec form (F+1) own e q=.ok (e,q):=by rw[opsP,h];simp only;rw[if_pos hc]
theorem ops_on{t:ByteArray}{op:Int}{fm:Nat}(h:operAt l q=some (t,op,fm))(hc:¬(fm<form\/own<fm\/(own=4/\fm=4))):opsP l rec form (F+1) own e q=(rec (fm+1) (q+1)).bnd fun b j=>opsP l rec form F fm (.mk op 0 noB noB [] [e,b]) j:=by rw[opsP,h];simp only;rw[if_neg hc]
end
def opSeen(l:List Tok)(q k:Nat):ByteArray×Int×Nat:=((oL.take k).find? fun o=>isP l q o.1).getD (⟨#[]⟩,0,0)
theorem opSeen_all(l:List Tok)(q:Nat):opSeen l q 7=(operAt l q).getD (⟨#[]⟩,0,0):=rfl
theorem opSeen_no{l:List Tok}{q k:Nat}{o:ByteArray×Int×Nat}(hk:oL[k]? =some o)(hn:isP l q o.1=false):opSeen l q (k+1)=opSeen l q k:=by
 unfold opSeen;rw[List.take_add_one,hk,List.find?_append];simp[hn]
theorem opSeen_yes{l:List Tok}{q k:Nat}{o:ByteArray×Int×Nat}(hk:oL[k]? =some o)(hy:isP l q o.1=true):opSeen l q (k+1)=o:=by
 unfold opSeen;rw[List.take_add_one,hk,List.find?_append]
 cases hf:(oL.take k).find? fun o=>isP l q o.1 with
 |none=>simp[hy]
 |some y=>
  have hy2:=List.find?_some hf;have hm:=List.mem_of_find?_eq_some hf;obtain⟨a,ha⟩:=List.mem_iff_getElem?.1 hm
  have hlt:a<k:=by
   have:=(List.getElem?_eq_some_iff.1 ha).1;simp at this;omega
  rw[List.getElem?_take,if_pos hlt] at ha;have:=opers_one ha hk hy2 hy;omega
theorem opers_at{k:Nat}{t:ByteArray}{op:Int}{fm:Nat}(hk:oL[k]? =some (t,op,fm)):pJ[k*3]? =some (.string t)/\pJ[k*3+1]? =some (.int .i64 op)/\pJ[k*3+2]? =some (.int .i64 (fm:Int)):=by
 have h7:k<7:=(List.getElem?_eq_some_iff.1 hk).1
 match k,h7,hk with
 |0,_,hk=>cases hk;exact⟨rfl,rfl,rfl⟩
 |1,_,hk=>cases hk;exact⟨rfl,rfl,rfl⟩
 |2,_,hk=>cases hk;exact⟨rfl,rfl,rfl⟩
 |3,_,hk=>cases hk;exact⟨rfl,rfl,rfl⟩
 |4,_,hk=>cases hk;exact⟨rfl,rfl,rfl⟩
 |5,_,hk=>cases hk;exact⟨rfl,rfl,rfl⟩
 |6,_,hk=>cases hk;exact⟨rfl,rfl,rfl⟩
theorem operAt_ok{l:List Tok}{q:Nat}{t:ByteArray}{op:Int}{fm:Nat}(h:operAt l q=some (t,op,fm)):¬t=⟨#[]⟩/\fm<=6/\isP l q t=true:=by
 have hm:=List.mem_of_find?_eq_some h;have hp:=List.find?_some h;refine⟨?_,?_,hp⟩
 ·simp only[oL,List.mem_cons,List.not_mem_nil,or_false,Prod.mk.injEq] at hm;rcases hm with⟨rfl,-,-⟩|⟨rfl,-,-⟩|⟨rfl,-,-⟩|⟨rfl,-,-⟩|⟨rfl,-,-⟩|⟨rfl,-,-⟩|⟨rfl,-,-⟩<;>decide
 ·simp only[oL,List.mem_cons,List.not_mem_nil,or_false,Prod.mk.injEq] at hm;rcases hm with⟨-,-,rfl⟩|⟨-,-,rfl⟩|⟨-,-,rfl⟩|⟨-,-,rfl⟩|⟨-,-,rfl⟩|⟨-,-,rfl⟩|⟨-,-,rfl⟩<;>decide
theorem bx3{w:World}{b:Nat}{x0 x1 x2:Value}{t:TypeId}(h:w.heap[b]? =some (.cells #[x0,x1,x2] t)):
  (w.cell? ⟨b,0,none⟩=some x0/\w.cell? ⟨b,1,none⟩=some x1/\w.cell? ⟨b,2,none⟩=some x2)/\(w.frozen? ⟨b,0,none⟩=false/\w.frozen? ⟨b,1,none⟩=false/\w.frozen? ⟨b,2,none⟩=false):=
 ⟨⟨(bx h 0 rfl).1,(bx h 1 rfl).1,(bx h 2 rfl).1⟩,(bx h 0 (u:=x0) rfl).2,(bx h 1 (u:=x1) rfl).2,(bx h 2 (u:=x2) rfl).2⟩
structure OpI (p:Prs) (W:World) (b5:Nat) (x:Xp) (cs:List Value) (q g:Nat) (seen:ByteArray×Int×Nat) (wr:World):Prop where
 ex:ExL p W b5 x cs q wr
 xc:wr.heap[g]? =some (.cells #[.string seen.1,.int .i64 seen.2.1,.int .i64 (seen.2.2:Int)] 280)
 oc:wr.heap[g+1]? =some (.cells pJ.toArray 280)
 lt:b5<g
 en:cE (fun b=>W.heap.size<b/\b≠b5/\b<g) wr x cs
theorem ExL.search{p:Prs}{W wr:World}{b5 q:Nat}{x:Xp}{cs:List Value}(h:ExL p W b5 x cs q wr):
  OpI p W b5 x cs q wr.heap.size (⟨#[]⟩,0,0) ((wr.alloc (.cells #[.string ⟨#[]⟩,.int .i64 0,.int .i64 0] 280)).alloc (.cells pJ.toArray 280)):=by
 have b1:=aA wr (.cells #[.string ⟨#[]⟩,.int .i64 0,.int .i64 0] 280);have b2:=aA (wr.alloc (.cells #[.string ⟨#[]⟩,.int .i64 0,.int .i64 0] 280)) (.cells pJ.toArray 280);have hz:=(Array.getElem?_eq_some_iff.1 h.loc).1;have hn:=heap_alloc_new (wr.alloc (.cells #[.string ⟨#[]⟩,.int .i64 0,.int .i64 0] 280)) (.cells pJ.toArray 280);rw[show(wr.alloc (.cells #[.string ⟨#[]⟩,.int .i64 0,.int .i64 0] 280)).heap.size=wr.heap.size+1 by simp] at hn;exact⟨(h.below b1).below b2,aD b2 (heap_alloc_new wr _),hn,hz,aG _ _ _ _ _ _ (fun b hb hl=>⟨⟨hb.1,hb.2,hl⟩,fun o u hu=>aC (aB b1 b2) hu⟩) h.enc⟩
section
variable {p:Prs} {W wr w':World} {b5 q g:Nat} {x:Xp} {cs:List Value} {seen:ByteArray×Int×Nat}
theorem OpI.below(h:OpI p W b5 x cs q g seen wr)(hb:Below wr.heap.size wr w'):OpI p W b5 x cs q g seen w':=⟨h.ex.below hb,aD hb h.xc,aD hb h.oc,h.lt,aG _ _ _ _ _ _ (bX.later hb) h.en⟩
theorem OpI.put{i0:Nat}{t:ByteArray}{op:Int}{fm:Nat}(h:OpI p W b5 x cs q g seen wr)(hW:p.At W i0):OpI p W b5 x cs q g (t,op,fm) (((wr.setCell ⟨g,0,none⟩ (.string t)).setCell ⟨g,1,none⟩ (.int .i64 op)).setCell ⟨g,2,none⟩ (.int .i64 (fm:Int))):=by
 have o:Off (fun b=>b=g) wr (((wr.setCell ⟨g,0,none⟩ (.string t)).setCell ⟨g,1,none⟩ (.int .i64 op)).setCell ⟨g,2,none⟩ (.int .i64 (fm:Int))):=(((Off.setCell (b:=g) wr rfl).trans (Off.setCell _ rfl)).trans (Off.setCell _ rfl)).mono fun b hb=>Eq.symm hb;have hb:=h.ex.b5;have hl:=h.lt;have hc:=h.xc;have hen:=aG.off h.en o fun b hb2 hn=>by have hb2:b=g:=hb2;have:=hn.2.2;omega
 refine⟨⟨Off.fresh ((h.ex.off.or _).trans (o.mono fun b hb2=>.inr (by have hb2:b=g:=hb2;omega))) (Nat.le_refl _),o.heap vT h.ex.res,o.heap vT h.ex.loc,?_,hb,h.ex.pb,hW.above h.ex.at_ (o.mono fun b hb2=>by have hb2:b=g:=hb2;omega)⟩,?_,o.heap vT h.oc,hl,hen⟩
 ·exact aG.wide hen fun b hb3 _=>⟨hb3.1,hb3.2.1⟩
 ·rw[aU (aU (aU hc _) _) _];rfl
end
theorem aQ{t:ByteArray}(h:t.toList=[]):t=⟨#[]⟩:=by
 have h1:=dD t ⟨#[]⟩;rw[h,toList_nil (s:=⟨#[]⟩) rfl] at h1;exact of_decide_eq_true h1.symm
theorem prefix_own{l:List Tok}{rec:RecP}{form i j:Nat}{r:Xp×Nat}(h:cZ l rec form i=.ok (r,j)):r.2<=8:=by
 unfold cZ at h;split at h
 ·exact uB
 ·split at h
  ·exact uB
  ·split at h
   ·obtain⟨_,_,-,h⟩:=PR.of_bnd h;obtain⟨_,_,-,h⟩:=PR.of_bnd h;cases h;exact Nat.zero_le _
   ·split at h
    ·obtain⟨_,_,-,h⟩:=PR.of_bnd h;cases h;show 3<=8;decide
    ·obtain⟨_,_,-,h⟩:=PR.of_bnd h;cases h;show 8<=8;decide
end Go.Proofs.YtacgopankhpnbaaGreatDoor
namespace Go.Proofs.YtacgopankhpnbaaGreatDoor
set_option maxHeartbeats 8000000
set_option maxRecDepth 100000
open Go.RowKit
theorem qW{p:Prop}(h:p:=by
 have hql:=isP_lt HI.out.ex.at_ htq;have b1:=HI.out.ex.at_.box1;have fz1:=HI.out.ex.at_.froz;have hqb:=HI.out.ex.at_.bound;have hstep:=HI.out.ex.at_.step hql;have hgpb:wr.heap.size≠p.pb:=by have:=HI.out.ex.pb;have:=HI.out.ex.b5;have:=HI.out.lt;omega
 go_wp2_with fail;have HL4:Hid (ExL p w b5 x [.int .i64 op,.int .i64 n,.string s,.string m,.slice a1 n1 c1,.slice a2 n2 c2] (q+1) (w2.setCell ⟨p.pb,1,none⟩ (.int .i64 ((q:Int)+1)))):=zh (HI.out.ex.next hstep.2 hstep.1);have HX4:Hid ((w2.setCell ⟨p.pb,1,none⟩ (.int .i64 ((q:Int)+1))).heap[wr.heap.size]? =some (.cells #[.string t2,.int .i64 op2,.int .i64 (fm2:Int)] 280)):=zh (hstep.2.heap (fun e=>hgpb e) HI.out.xc);have HA4:Hid (p.At (w2.setCell ⟨p.pb,1,none⟩ (.int .i64 ((q:Int)+1))) (q+1)):=zh hstep.1;have hq5:=HB.out.1;have hq6:=HB.out.2;clear hstep b1 fz1 k0 k1 k2 j0 j1 j2 hop HI HSp hte htq htn;generalize (w2.setCell ⟨p.pb,1,none⟩ (.int .i64 ((q:Int)+1)))=w4 at *;generalize wr.heap.size=g at *;have hgw:=(Array.getElem?_eq_some_iff.1 HX4.out).1;refine wp_region_held_drew (S:=(fun W=>W.heap[g]? =some (.cells #[.string t2,.int .i64 op2,.int .i64 (fm2:Int)] 280))) vU (aD (aF _) HX4.out) fun hS=>?_;refine zt 0 (.pointer (some ⟨g,1,none⟩)) rfl (fun W hW=>vW) hS ?_;try simp only[zn]
 refine zt 1 (.int .i64 op2) rfl (fun W hW=>by(obtain⟨⟨k0,k1,k2⟩,j0,j1,j2⟩:=bx3 hW);go_simp) hS ?_;try simp only[zn]
 refine zt 3 (.pointer (some ⟨p.pb,0,none⟩)) rfl (fun W hW=>vW) hS ?_;try simp only[zn]
 refine zt 4 (.pointer (some ⟨g,2,none⟩)) rfl (fun W hW=>vW) hS ?_;try simp only[zn]
 refine zt 5 (.int .i64 (fm2:Int)) rfl (fun W hW=>by(obtain⟨⟨k0,k1,k2⟩,j0,j1,j2⟩:=bx3 hW);go_simp) hS ?_;try simp only[zn]
 refine zt 6 (.int .i64 ((fm2:Int)+1)) rfl (fun W hW=>by have hfmw:IntKind.i64.wrap ((fm2:Int)+1)=(fm2:Int)+1:=xG;go_simp) hS ?_;try simp only[zn]
 refine wpAnyH_ready (rs:=[2,7]) vU vZ ?_;refine AllReadyH.cons rfl (fun K hK=>?_) (AllReadyH.cons rfl (fun K hK=>?_) AllReadyH.nil)
 ·rw[if_pos vU];try simp only[z1,z2,z3]
  refine xp_load b5 (HL4.out.below (aF _)).loc _ rfl rfl ?_;refine hK.out _ _ (hS) (fun hS=>?_);clear hK K;try simp only[zn]
  refine zr 7 rfl (fun K hK=>?_);try simp only[z1,z2,z3]
  go_simp;refine(HE.out (fm2+1) (q+1) w4.drew (HA4.out.later (aF _)) vT vT).mono ?_;rintro e w5 (⟨x5,hx5,rfl,ho5⟩|⟨xb,jb,hx5,⟨⟨opc,nc,sc,mc,pc,qc,rc,tc,uc,vc,rfl,heb⟩,ha5,hij5⟩,ho5⟩)
  ·go_wp2_with fail;exact⟨rfl,Ran.bad' (HSp4.out.trans (PR.bnd_bad hx5)) (HL4.out.off.trans ((Off.of_below (aF _)).trans ho5))⟩
  ·have HL5:=zh ((HL4.out.below (aF _)).next ho5 ha5);have HEB:=zh heb;have HSp5:=zh (HSp4.out.trans (PR.bnd_ok hx5));have hz5:w4.heap.size<=w5.heap.size:=ho5.size;have hS5:=ho5.heap (show g≠p.pb from vT) hS;clear ha5 ho5 heb hx5;refine hK.out _ _ (hS5) (fun hS=>?_);clear hK K;(try simp only[zn]);have HLw:=zh (HL5.out.below (aA w5 (.cells #[.int .i64 op,.int .i64 n,.string s,.string m,.slice a1 n1 c1,.slice a2 n2 c2,.int .i64 opc,.int .i64 nc,.string sc,.string mc,.slice pc qc rc,.slice tc uc vc] 177)));have HP6:=zh (HLw.out.put HW.out (y:=.mk op2 0 noB noB [] [x,xb]) (y0:=.int .i64 op2) (y1:=.int .i64 0) (y2:=.string ⟨#[]⟩) (y3:=.string ⟨#[]⟩) (y4:=.slice none 0 0) (y5:=.slice (some ⟨w5.heap.size,0,none⟩) 2 2) wF);refine zr 8 rfl (fun K hK=>?_);(try simp only[z1,z2,z3]);refine xp_slice2 _ _ rfl rfl rfl ?_;refine hK.out _ _ (aD (aA w5 _) hS) (fun hS=>?_);clear hK K;(try simp only[zn]);refine zt 9 (.agg #[.int .i64 op2,.int .i64 0,.string ⟨#[]⟩,.string ⟨#[]⟩,.slice none 0 0,.slice (some ⟨w5.heap.size,0,none⟩) 2 2]) rfl (fun W hW=>vW) hS ?_;(try simp only[zn]);refine zr 10 rfl (fun K hK=>?_);(try simp only[z1,z2,z3]);refine oC b5 HLw.out.loc _ _ rfl rfl rfl wN ?_;refine hK.out _ _ ((setRow_other _ _ _ _ vT).trans hS) (fun hS=>?_);clear hK K;(try simp only[zn]);refine wpAnyH_done vU ?_ _;clear HLw HE;have HS:=zh hS;have HQ:=zh HLq.out;generalize World.setRow (w5.alloc (.cells #[.int .i64 op,.int .i64 n,.string s,.string m,.slice a1 n1 c1,.slice a2 n2 c2,.int .i64 opc,.int .i64 nc,.string sc,.string mc,.slice pc qc rc,.slice tc uc vc] 177)) b5 #[.int .i64 op2,.int .i64 0,.string ⟨#[]⟩,.string ⟨#[]⟩,.slice none 0 0,.slice (some ⟨w5.heap.size,0,none⟩) 2 2]=w6 at *;clear hS;obtain⟨⟨k0,k1,k2⟩,j0,j1,j2⟩:=bx3 HS.out;go_wp2_with fail;go_roundw
   case rel=>
    obtain⟨F',hF'⟩:∃F',F=F'+1:=⟨F-1,by have:=HB.out.1;have:=hql;omega⟩;subst hF';exact⟨jb,F',fm2,_,op2,0,⟨#[]⟩,⟨#[]⟩,none,0,0,some ⟨w5.heap.size,0,none⟩,2,2,rfl,vT,HP6,HSp5,zh ⟨by have:=HB.out;omega,by have:=HB.out;omega⟩⟩
   case measure=>
    have h1:=HP6.out.at_.pos;have h2:=HP6.out.at_.lt;rw[h1,HQ.out];omega
 ·rw[if_pos vU];try simp only[z1,z2,z3]
  go_simp;refine(HE.out (fm2+1) (q+1) w4.drew (HA4.out.later (aF _)) vT vT).mono ?_;rintro e w5 (⟨x5,hx5,rfl,ho5⟩|⟨xb,jb,hx5,⟨⟨opc,nc,sc,mc,pc,qc,rc,tc,uc,vc,rfl,heb⟩,ha5,hij5⟩,ho5⟩)
  ·go_wp2_with fail;exact⟨rfl,Ran.bad' (HSp4.out.trans (PR.bnd_bad hx5)) (HL4.out.off.trans ((Off.of_below (aF _)).trans ho5))⟩
  ·have HL5:=zh ((HL4.out.below (aF _)).next ho5 ha5);have HEB:=zh heb;have HSp5:=zh (HSp4.out.trans (PR.bnd_ok hx5));have hz5:w4.heap.size<=w5.heap.size:=ho5.size;have hS5:=ho5.heap (show g≠p.pb from vT) hS;clear ha5 ho5 heb hx5;refine hK.out _ _ (hS5) (fun hS=>?_);clear hK K;(try simp only[zn]);refine zr 2 rfl (fun K hK=>?_);(try simp only[z1,z2,z3]);refine xp_load b5 HL5.out.loc _ rfl rfl ?_;refine hK.out _ _ (hS) (fun hS=>?_);clear hK K;(try simp only[zn]);have HLw:=zh (HL5.out.below (aA w5 (.cells #[.int .i64 op,.int .i64 n,.string s,.string m,.slice a1 n1 c1,.slice a2 n2 c2,.int .i64 opc,.int .i64 nc,.string sc,.string mc,.slice pc qc rc,.slice tc uc vc] 177)));have HP6:=zh (HLw.out.put HW.out (y:=.mk op2 0 noB noB [] [x,xb]) (y0:=.int .i64 op2) (y1:=.int .i64 0) (y2:=.string ⟨#[]⟩) (y3:=.string ⟨#[]⟩) (y4:=.slice none 0 0) (y5:=.slice (some ⟨w5.heap.size,0,none⟩) 2 2) wF);refine zr 8 rfl (fun K hK=>?_);(try simp only[z1,z2,z3]);refine xp_slice2 _ _ rfl rfl rfl ?_;refine hK.out _ _ (aD (aA w5 _) hS) (fun hS=>?_);clear hK K;(try simp only[zn]);refine zt 9 (.agg #[.int .i64 op2,.int .i64 0,.string ⟨#[]⟩,.string ⟨#[]⟩,.slice none 0 0,.slice (some ⟨w5.heap.size,0,none⟩) 2 2]) rfl (fun W hW=>vW) hS ?_;(try simp only[zn]);refine zr 10 rfl (fun K hK=>?_);(try simp only[z1,z2,z3]);refine oC b5 HLw.out.loc _ _ rfl rfl rfl wN ?_;refine hK.out _ _ ((setRow_other _ _ _ _ vT).trans hS) (fun hS=>?_);clear hK K;(try simp only[zn]);refine wpAnyH_done vU ?_ _;clear HLw HE;have HS:=zh hS;have HQ:=zh HLq.out;generalize World.setRow (w5.alloc (.cells #[.int .i64 op,.int .i64 n,.string s,.string m,.slice a1 n1 c1,.slice a2 n2 c2,.int .i64 opc,.int .i64 nc,.string sc,.string mc,.slice pc qc rc,.slice tc uc vc] 177)) b5 #[.int .i64 op2,.int .i64 0,.string ⟨#[]⟩,.string ⟨#[]⟩,.slice none 0 0,.slice (some ⟨w5.heap.size,0,none⟩) 2 2]=w6 at *;clear hS;obtain⟨⟨k0,k1,k2⟩,j0,j1,j2⟩:=bx3 HS.out;go_wp2_with fail;go_roundw
   case rel=>
    obtain⟨F',hF'⟩:∃F',F=F'+1:=⟨F-1,by have:=HB.out.1;have:=hql;omega⟩;subst hF';exact⟨jb,F',fm2,_,op2,0,⟨#[]⟩,⟨#[]⟩,none,0,0,some ⟨w5.heap.size,0,none⟩,2,2,rfl,vT,HP6,HSp5,zh ⟨by have:=HB.out;omega,by have:=HB.out;omega⟩⟩
   case measure=>
    have h1:=HP6.out.at_.pos;have h2:=HP6.out.at_.lt
    rw[h1,HQ.out];omega):p:=h
theorem rH{p:Prop}(h:p:=by
 refine hK.out _ _ trivial (fun hS=>?_);clear hK K;try simp only[zn]
 refine zr 3 rfl (fun K hK=>?_);try simp only[z1,z2,z3]
 refine xp_slice1 _ rfl rfl ?_;refine hK.out _ _ trivial (fun hS=>?_);clear hK K;try simp only[zn]
 have HLw:=zh (HL4.out.below (aA w4 (.cells #[.int .i64 op,.int .i64 n,.string s,.string m,.slice a1 n1 c1,.slice a2 n2 c2] 177)));have HP5:=zh (HLw.out.put HW.out (y:=.mk 14 0 ns noB [] [x]) (y0:=.int .i64 14) (y1:=.int .i64 0) (y2:=.string ns) (y3:=.string ⟨#[]⟩) (y4:=.slice none 0 0) (y5:=.slice (some ⟨w4.heap.size,0,none⟩) 1 1) (by rw[bF];exact⟨_,_,rfl,hsz,vV,aK.nil _ _ _ _,(aK.of_block (N:=fun b=>w.heap.size<b/\b≠b5) (css:=[[.int .i64 op,.int .i64 n,.string s,.string m,.slice a1 n1 c1,.slice a2 n2 c2]]) (heap_alloc_new w4 _) AG rfl vZ (fun i y c hy hc=>by match i,hy,hc with|0,hy,hc=>(cases hy;cases hc;exact aG _ _ _ _ _ _ (bX.later (aA w4 _)) HL4.out.enc)) rfl vV:aK 6 cE (fun b=>w.heap.size<b/\b≠b5) (w4.alloc (.cells #[.int .i64 op,.int .i64 n,.string s,.string m,.slice a1 n1 c1,.slice a2 n2 c2] 177)) (.slice (some ⟨w4.heap.size,0,none⟩) 1 1) [x])⟩));refine zt 4 (.agg #[.int .i64 14,.int .i64 0,.string ns,.string ⟨#[]⟩,.slice none 0 0,.slice (some ⟨w4.heap.size,0,none⟩) 1 1]) rfl (fun W hW=>vW) hS ?_;try simp only[zn]
 refine zr 5 rfl (fun K hK=>?_);try simp only[z1,z2,z3]
 refine oC b5 HLw.out.loc _ _ rfl rfl rfl wN ?_;refine hK.out _ _ trivial (fun hS=>?_);clear hK K;try simp only[zn]
 refine wpAnyH_done vU ?_ _;clear HLw hS HE;have HSp4:=zh (HSp1.out.trans (congrArg (fun z=>PR.bnd z _) (PR.bnd_ok HX4.out)));have HJ4:=zh (fY HX4.out);have HQ:=zh HL.out.at_.pos;clear HX4 HSp HSp1 HO4;generalize World.setRow (w4.alloc (.cells #[.int .i64 op,.int .i64 n,.string s,.string m,.slice a1 n1 c1,.slice a2 n2 c2] 177)) b5 #[.int .i64 14,.int .i64 0,.string ns,.string ⟨#[]⟩,.slice none 0 0,.slice (some ⟨w4.heap.size,0,none⟩) 1 1]=w5 at *;go_roundw
 case rel=>
  obtain⟨F',hF'⟩:∃F',F=F'+1:=⟨F-1,xU⟩;subst hF';refine⟨_,_,_,_,_,_,_,_,_,_,_,⟨j4,F',_,14,0,ns,⟨#[]⟩,none,0,0,some ⟨w4.heap.size,0,none⟩,1,1,HP5,zh (HSp4.out.trans (congrArg (fun z=>PR.bnd z _) (if_pos hown).symm)),zh ⟨zF,zF⟩⟩,rfl⟩
 case measure=>
  have h1:=HP5.out.at_.pos;have h2:=HP5.out.at_.lt;have h3:=HJ4.out
  rw[h1,HQ.out];omega):p:=h
theorem rQ{p:Prop}(h:p:=by
 obtain⟨⟨y0,y1,y2,y3,y4,y5⟩,h0,h1,h2,h3,h4,h5⟩:=bx6 HI.out.ex.loc;obtain⟨⟨r0,r1,r2,r3,r4,r5⟩,g0,g1,g2,g3,g4,g5⟩:=bx6 HI.out.ex.res;go_wp2_with fail;have hE:=iA HW.out HI.out.ex.off HI.out.ex.at_ HI.out.ex.enc (fun b hb=>hb.1);unfold iB at hE;refine bodyPost_ret (v:=.agg #[.int .i64 op,.int .i64 n,.string s,.string m,.slice a1 n1 c1,.slice a2 n2 c2]) (by simp[results,Tryz.results188,go_sem,r0,r1,r2,r3,r4,r5]) rfl ?_
 exact Ran.good HR.out ⟨⟨op,n,s,m,a1,n1,c1,a2,n2,c2,rfl,hE.1⟩,hE.2.1,HJ.out⟩ hE.2.2):p:=h
theorem vE{p:Prop}(h:p:=by
 go_wp2_with fail
 exact⟨rfl,Ran.bad' (HSp1.out.trans (PR.bnd_bad (PR.bnd_bad hx4))) ((HL3.out.below (aF _)).off.trans ho4)⟩):p:=h
theorem exp_step(p:Prs)(f:Nat)(hE:gW p f)(hP:PrimOk p f)(form i:Nat)(w:World)(h:p.At w i)(hf:form<=9)(hfu:p.l.length<f+1+i):Calls Tryz.prog 188 #[.pointer (some ⟨p.pb,0,none⟩),.int .i64 (form:Int)] w
  (Ran p.S w (bZ p.l (f+1) form i) fun x j e w'=>pV w.heap.size x e w'/\p.At w' j/\i<=j):=by
 have HE:=zh hE;have HW:=zh h;have hlen:=h.len;have hpb:=h.blt;have hne:w.heap.size≠p.pb:=vT;have HR:Hid (bZ p.l (f+1) form i=(cZ p.l (bZ p.l f) form i).bnd fun r j=>(if 7<=r.2 then pO p.l (p.l.length+1) r.1 j else .ok (r.1,j)).bnd fun e k=>opsP p.l (bZ p.l f) form (p.l.length+1) r.2 e k):=zh (by rw[bZ]);have HPr:=zh (prefix_any p f hE hP (w.alloc (.cells bS 177)) form i (h.later (aA _ _)) hf vT);have hs0:(w.alloc (.cells bS 177)).heap.size=w.heap.size+1:=vZ;clear h hE hP;go_enter Tryz.func188,Tryz.ntmps188;go_wp2_with(go_at_call 218;refine HPr.out.mono ?_;rintro e w2 (⟨x2,hx2,rfl,ho2⟩|⟨r,j2,hx2,⟨⟨op,n,s,m,a1,n1,c1,a2,n2,c2,rfl,hex⟩,ha2,hij⟩,ho2⟩))
 ·exact⟨rfl,Ran.bad' (HR.out.trans (PR.bnd_bad hx2)) ((Off.of_below (aA _ _)).trans ho2)⟩
 ·have hz2:=ho2.size;have HL0:Hid (ExL p w w2.heap.size r.1 [.int .i64 op,.int .i64 n,.string s,.string m,.slice a1 n1 c1,.slice a2 n2 c2] j2 (w2.alloc (.cells #[.int .i64 op,.int .i64 n,.string s,.string m,.slice a1 n1 c1,.slice a2 n2 c2] 177))):=zh ⟨((Off.of_below (aA _ _)).trans ho2).trans (Off.of_below (aA _ _)),aD (aA _ _) (ho2.heap hne (heap_alloc_new w _)),heap_alloc_new w2 _,aG _ _ _ _ _ _ (fun b hb hl=>⟨⟨by have hb:(w.alloc (.cells bS 177)).heap.size<=b:=hb;omega,vT⟩,fun o u hu=>aC (aA _ _) hu⟩) hex,vT,hpb,ha2.later (aA _ _)⟩;have HSp0:=zh (HR.out.trans (PR.bnd_ok hx2));have hr8:=prefix_own hx2;clear hex ha2 ho2 hx2 HPr HR;obtain⟨x0,own⟩:=r;simp only at HL0 HSp0 hr8;have hb5:w.heap.size<w2.heap.size:=vT;generalize w2.heap.size=b5 at *;go_loopw [16] (fun sl wr=>∃(q F:Nat)(x:Xp)(op n:Int)(s m:ByteArray)(a1:Option Addr)(n1 c1:Nat)(a2:Option Addr)(n2 c2:Nat),Hid (ExL p w b5 x [.int .i64 op,.int .i64 n,.string s,.string m,.slice a1 n1 c1,.slice a2 n2 c2] q wr)/\Hid (bZ p.l (f+1) form i=(if 7<=own then pO p.l (F+1) x q else .ok (x,q)).bnd fun e k=>opsP p.l (bZ p.l f) form (p.l.length+1) own e k)/\Hid (p.l.length<=F+q/\i<=q)) (fun _ wr=>p.l.length-posOf wr p.pb)
  case atStart=>exact⟨j2,p.l.length,x0,op,n,s,m,a1,n1,c1,a2,n2,c2,HL0,HSp0,zh ⟨vT,hij⟩⟩
  case round=>
   obtain⟨q,F,x,op,n,s,m,a1,n1,c1,a2,n2,c2,HL,HSp,HB⟩:=hrel;(rename World=>wr);by_cases hown:7<=own
   focus
    have hown':¬(own:Int)<7:=vT;have hown2:(7:Int)<=(own:Int):=vT;rcases Bool.eq_false_or_eq_true (isP p.l q kDot) with hqd|hqd
    focus
     ·skip;have hl:=isP_lt HL.out.at_ hqd;have HSp1:=zh (HSp.out.trans (congrArg (fun z=>PR.bnd z _) ((if_pos hown).trans (dots_yes hqd))));go_wp2_with(go_at_call 141;refine(fR p wr q kDot HL.out.at_ hqd).mono ?_;rintro e w3 ⟨rfl,ha3,ho3⟩);have HL3:=zh (HL.out.next ho3 ha3);clear ha3 ho3;refine wp_region_held_drew (S:=(fun _=>True)) vU trivial fun hS=>?_;refine zt 0 (.pointer (some ⟨p.pb,0,none⟩)) rfl (fun W hW=>vW) hS ?_;(try simp only[zn]);refine wpAnyH_ready (rs:=[1,2]) vU vZ ?_;refine AllReadyH.cons rfl (fun K hK=>?_) (AllReadyH.cons rfl (fun K hK=>?_) AllReadyH.nil)
      ·rw[if_pos vU];(try simp only[z1,z2,z3]);go_simp;refine(fN p w3.drew (q+1) (HL3.out.below (aF _)).at_).mono ?_;rintro e w4 (⟨x4,hx4,rfl,ho4⟩|⟨ns,j4,hx4,⟨rfl,ha4,hsz⟩,ho4⟩)
       ·exact vE
       ·have HL4:=zh ((HL3.out.below (aF _)).next ho4 ha4);have HX4:=zh hx4;have HO4:=zh ho4;clear ha4 ho4 hx4;have hbz:b5<w4.heap.size:=(Array.getElem?_eq_some_iff.1 HL4.out.loc).1;have hwz:=HL4.out.b5;refine hK.out _ _ trivial (fun hS=>?_);clear hK K;(try simp only[zn]);refine zr 2 rfl (fun K hK=>?_);(try simp only[z1,z2,z3]);refine xp_load b5 HL4.out.loc _ rfl rfl ?_;exact rH
      ·rw[if_pos vU];(try simp only[z1,z2,z3]);refine xp_load b5 (HL3.out.below (aF _)).loc _ rfl rfl ?_;refine hK.out _ _ trivial (fun hS=>?_);clear hK K;(try simp only[zn]);refine wpAnyH_ready (rs:=[1,3]) vU vZ ?_;refine AllReadyH.cons rfl (fun K hK=>?_) (AllReadyH.cons rfl (fun K hK=>?_) AllReadyH.nil)
       ·rw[if_pos vU];(try simp only[z1,z2,z3]);go_simp;refine(fN p w3.drew (q+1) (HL3.out.below (aF _)).at_).mono ?_;rintro e w4 (⟨x4,hx4,rfl,ho4⟩|⟨ns,j4,hx4,⟨rfl,ha4,hsz⟩,ho4⟩)
        ·exact vE
        ·have HL4:=zh ((HL3.out.below (aF _)).next ho4 ha4);have HX4:=zh hx4;have HO4:=zh ho4;clear ha4 ho4 hx4;have hbz:b5<w4.heap.size:=(Array.getElem?_eq_some_iff.1 HL4.out.loc).1;have hwz:=HL4.out.b5;exact rH
       ·rw[if_pos vU];(try simp only[z1,z2,z3]);refine xp_slice1 _ rfl rfl ?_;refine hK.out _ _ trivial (fun hS=>?_);clear hK K;(try simp only[zn]);refine zr 1 rfl (fun K hK=>?_);(try simp only[z1,z2,z3]);go_simp;refine(fN p (w3.drew.alloc (.cells #[.int .i64 op,.int .i64 n,.string s,.string m,.slice a1 n1 c1,.slice a2 n2 c2] 177)) (q+1) (HL3.out.below (aB (aF w3) (aA w3.drew (.cells #[.int .i64 op,.int .i64 n,.string s,.string m,.slice a1 n1 c1,.slice a2 n2 c2] 177)))).at_).mono ?_;rintro e w4 (⟨x4,hx4,rfl,ho4⟩|⟨ns,j4,hx4,⟨rfl,ha4,hsz⟩,ho4⟩)
        ·go_wp2_with fail;exact⟨rfl,Ran.bad' (HSp1.out.trans (PR.bnd_bad (PR.bnd_bad hx4))) ((HL3.out.below (aB (aF w3) (aA w3.drew (.cells #[.int .i64 op,.int .i64 n,.string s,.string m,.slice a1 n1 c1,.slice a2 n2 c2] 177)))).off.trans ho4)⟩
        ·have HL4:=zh ((HL3.out.below (aB (aF w3) (aA w3.drew (.cells #[.int .i64 op,.int .i64 n,.string s,.string m,.slice a1 n1 c1,.slice a2 n2 c2] 177)))).next ho4 ha4);have HX4:=zh hx4;have HO4:=zh ho4;clear ha4 ho4 hx4;have hrow4:=HO4.out.heap (show w3.drew.heap.size≠p.pb from fun e=>by have:=HL3.out.at_.blt;have e:w3.heap.size=p.pb:=e;omega) (heap_alloc_new w3.drew (.cells #[.int .i64 op,.int .i64 n,.string s,.string m,.slice a1 n1 c1,.slice a2 n2 c2] 177));have hdz:w3.drew.heap.size=w3.heap.size:=rfl;have hbz:b5<w3.heap.size:=(Array.getElem?_eq_some_iff.1 HL3.out.loc).1;have hwz:=HL4.out.b5;refine hK.out _ _ trivial (fun hS=>?_);clear hK K;(try simp only[zn]);have HLw:=zh (HL4.out);have HP5:=zh (HLw.out.put HW.out (y:=.mk 14 0 ns noB [] [x]) (y0:=.int .i64 14) (y1:=.int .i64 0) (y2:=.string ns) (y3:=.string ⟨#[]⟩) (y4:=.slice none 0 0) (y5:=.slice (some ⟨w3.drew.heap.size,0,none⟩) 1 1) (by rw[bF];exact⟨_,_,rfl,hsz,vV,aK.nil _ _ _ _,(aK.of_block (N:=fun b=>w.heap.size<b/\b≠b5) (css:=[[.int .i64 op,.int .i64 n,.string s,.string m,.slice a1 n1 c1,.slice a2 n2 c2]]) (hrow4) AG rfl vZ (fun i y c hy hc=>by match i,hy,hc with|0,hy,hc=>(cases hy;cases hc;exact HL4.out.enc)) rfl vV:aK 6 cE (fun b=>w.heap.size<b/\b≠b5) w4 (.slice (some ⟨w3.drew.heap.size,0,none⟩) 1 1) [x])⟩));refine zt 4 (.agg #[.int .i64 14,.int .i64 0,.string ns,.string ⟨#[]⟩,.slice none 0 0,.slice (some ⟨w3.drew.heap.size,0,none⟩) 1 1]) rfl (fun W hW=>vW) hS ?_;(try simp only[zn]);refine zr 5 rfl (fun K hK=>?_);(try simp only[z1,z2,z3]);refine oC b5 HLw.out.loc _ _ rfl rfl rfl wN ?_;refine hK.out _ _ trivial (fun hS=>?_);clear hK K;(try simp only[zn]);refine wpAnyH_done vU ?_ _;clear HLw hS HE;have HSp4:=zh (HSp1.out.trans (congrArg (fun z=>PR.bnd z _) (PR.bnd_ok HX4.out)));have HJ4:=zh (fY HX4.out);have HQ:=zh HL.out.at_.pos;clear HX4 HSp HSp1 HO4;generalize World.setRow w4 b5 #[.int .i64 14,.int .i64 0,.string ns,.string ⟨#[]⟩,.slice none 0 0,.slice (some ⟨w3.drew.heap.size,0,none⟩) 1 1]=w5 at *;go_roundw
         case rel=>
          obtain⟨F',hF'⟩:∃F',F=F'+1:=⟨F-1,xU⟩;subst hF';refine⟨_,_,_,_,_,_,_,_,_,_,_,⟨j4,F',_,14,0,ns,⟨#[]⟩,none,0,0,some ⟨w3.drew.heap.size,0,none⟩,1,1,HP5,zh (HSp4.out.trans (congrArg (fun z=>PR.bnd z _) (if_pos hown).symm)),zh ⟨zF,zF⟩⟩,rfl⟩
         case measure=>
          have h1:=HP5.out.at_.pos;have h2:=HP5.out.at_.lt;have h3:=HJ4.out;rw[h1,HQ.out];omega
    have HSpE:=zh (HSp.out.trans (congrArg (fun z=>PR.bnd z _) ((if_pos hown).trans (dots_no hqd))));go_wp2_with(go_at_call 141;refine(bE p wr q kDot HL.out.at_ hqd).mono ?_;rintro e w3 ⟨rfl,ha3,ho3⟩;have HLE:=zh (HL.out.next ho3 ha3);clear ha3 ho3)
   rotate_left
   focus
    have hown':(own:Int)<7:=vT;have HSpE:=zh (HSp.out.trans (congrArg (fun z=>PR.bnd z _) (if_neg hown)));have HLE:=HL;go_wp2_with fail
   all_goals
    have HSpO:Hid (bZ p.l (f+1) form i=opsP p.l (bZ p.l f) form (p.l.length+1) own x q):=zh HSpE.out;clear HL HSp HSpE HL0 HSp0;(go_loopw [6] (fun sl wr=>∃(q F own:Nat)(x:Xp)(op n:Int)(s m:ByteArray)(a1:Option Addr)(n1 c1:Nat)(a2:Option Addr)(n2 c2:Nat),sl=.int .i64 (own:Int)/\own<=8/\Hid (ExL p w b5 x [.int .i64 op,.int .i64 n,.string s,.string m,.slice a1 n1 c1,.slice a2 n2 c2] q wr)/\Hid (bZ p.l (f+1) form i=opsP p.l (bZ p.l f) form (F+1) own x q)/\Hid (p.l.length<=F+q/\i<=q)) (fun _ wr=>p.l.length-posOf wr p.pb));case atStart=>exact⟨q,p.l.length,own,x,op,n,s,m,a1,n1,c1,a2,n2,c2,rfl,hr8,HLE,HSpO,zh ⟨vT,HB.out.2⟩⟩
    case round=>
     clear HLE HSpO HB hown hown' hr8;obtain⟨q,F,own,x,op,n,s,m,a1,n1,c1,a2,n2,c2,rfl,hr8,HL,HSp,HB⟩:=hrel;(rename World=>wr);have HI0:=zh HL.out.search;have HLq:=zh HL.out.at_.pos;have hgb:=(Array.getElem?_eq_some_iff.1 HL.out.loc).1;have hb5w:=HL.out.b5;go_wp2_with(go_at_call 219;refine(operators_any _).mono ?_;rintro e w1 ⟨rfl,rfl⟩);(go_loopw [29] (fun sl w2=>∃k:Nat,k<=7/\sl=.int .i64 (k:Int)/\Hid (OpI p w b5 x [.int .i64 op,.int .i64 n,.string s,.string m,.slice a1 n1 c1,.slice a2 n2 c2] q wr.heap.size (opSeen p.l q k) w2)) (fun sl _=>7-(intOf sl).toNat));case atStart=>exact⟨0,vT,rfl,HI0⟩
     case round=>
      obtain⟨k,hk7,rfl,HI⟩:=hrel;(rename World=>w2);by_cases hlt:k<7
      ··skip;obtain⟨⟨t,op1,fm⟩,hk⟩:∃o,oL[k]? =some o:=⟨_,List.getElem?_eq_getElem (show k<oL.length from hlt)⟩;obtain⟨hc0,hc1,hc2⟩:=opers_at hk;have c0:=(bx HI.out.oc (k*3) (by simpa using hc0)).1;have c1:=(bx HI.out.oc (k*3+1) (by simpa using hc1)).1;have c2:=(bx HI.out.oc (k*3+2) (by simpa using hc2)).1;clear hc0 hc1 hc2;have HI2:=zh (HI.out.below (aA w2 (.cells #[.string t,.int .i64 op1,.int .i64 (fm:Int)] 280)));have HK:=zh hk
        cases hqt:isP p.l q t with
        |true=>
         go_wp2_with(go_at_call 133;refine(gC p _ q t HI2.out.ex.at_).mono ?_;rintro e w3 ⟨rfl,hb3⟩;rw[hqt];have HI3:=zh (HI2.out.below hb3);obtain⟨⟨d0,d1,d2⟩,-⟩:=bx3 (aD hb3 (heap_alloc_new w2 (.cells #[.string t,.int .i64 op1,.int .i64 (fm:Int)] 280)));obtain⟨⟨k0,k1,k2⟩,j0,j1,j2⟩:=bx3 HI3.out.xc);have HI4:=zh (HI3.out.put HW.out (t:=t) (op:=op1) (fm:=fm));clear d0 d1 d2 k0 k1 k2 j0 j1 j2;go_roundw;(case rel=>exact⟨k+1,vT,wH,by rw[opSeen_yes HK.out hqt];exact HI4⟩);case measure=>simp[intOf];omega
        |false=>
         go_wp2_with(go_at_call 133;refine(gC p _ q t HI2.out.ex.at_).mono ?_;rintro e w3 ⟨rfl,hb3⟩;rw[hqt];have HI3:=zh (HI2.out.below hb3));go_roundw;(case rel=>exact⟨k+1,vT,wH,by rw[opSeen_no HK.out hqt];exact HI3⟩);case measure=>simp[intOf];omega
      ·have hk:k=7:=vT;subst hk
       cases hop:operAt p.l q with
       |none=>
        (have hseen:opSeen p.l q 7=(⟨#[]⟩,0,0):=by rw[opSeen_all,hop];rfl);rw[hseen] at HI;have HR:=zh (HSp.out.trans (ops_none hop));have HJ:=zh (show i<=q from HB.out.2);clear hseen hop HSp HB HI0 HLq HE;obtain⟨⟨k0,k1,k2⟩,j0,j1,j2⟩:=bx3 HI.out.xc;exact rQ
       |some o=>
        obtain⟨t2,op2,fm2⟩:=o;(have hseen:opSeen p.l q 7=(t2,op2,fm2):=by rw[opSeen_all,hop];rfl);rw[hseen] at HI;obtain⟨htn,hfm6,htq⟩:=operAt_ok hop;(have hte:(t2.toList==[])=false:=by rw[beq_eq_false_iff_ne];intro e;exact htn (aQ e));have HJ:=zh (show i<=q from HB.out.2);clear hseen HI0;obtain⟨⟨k0,k1,k2⟩,j0,j1,j2⟩:=bx3 HI.out.xc;by_cases e1:fm2<form
        ·have HR:=zh (HSp.out.trans (ops_stop hop (.inl e1)));clear hop HSp HB HE;have e1':(fm2:Int)<(form:Int):=vT;exact rQ
        ·have e1':¬(fm2:Int)<(form:Int):=vT;have e1'':(form:Int)<=(fm2:Int):=vT;by_cases e2:own<fm2
         ·have HR:=zh (HSp.out.trans (ops_stop hop (.inr (.inl e2))));clear hop HSp HB HE;have e2':(own:Int)<(fm2:Int):=vT;exact rQ
         ·have e2':¬(own:Int)<(fm2:Int):=vT;have e2'':(fm2:Int)<=(own:Int):=vT;by_cases e3:own=4
          ·(have e3':((own:Int)==4)=true:=by rw[beq_iff_eq];omega);by_cases e4:fm2=4
           ·(have e4':((fm2:Int)==4)=true:=by rw[beq_iff_eq];omega);have HR:=zh (HSp.out.trans (ops_stop hop (.inr (.inr ⟨e3,e4⟩))));clear hop HSp HB HE e3 e4;exact rQ
           ·have e4':((fm2:Int)==4)=false:=wC;have HSp4:=zh (HSp.out.trans (ops_on hop (fun h=>by rcases h with h|h|h<;>omega)));clear e3 e4;exact qW
          ·have e3':((own:Int)==4)=false:=wC;have HSp4:=zh (HSp.out.trans (ops_on hop (fun h=>by rcases h with h|h|h<;>omega)));exact qW
end Go.Proofs.YtacgopankhpnbaaGreatDoor
namespace Go.Proofs.YtacgopankhpnbaaGreatDoor
theorem exp_ok(p:Prs):∀f,gW p f
 |0=>fun form i w h hf hfu=>by have:=h.lt;omega
 |f+1=>fun form i w h hf hfu=>exp_step p f (exp_ok p f) (primary_ok p f (exp_ok p f) (record_any p f (exp_ok p f))) form i w h hf hfu
theorem exp_all(p:Prs):ExpAll p:=ExpAll.of (exp_ok p)
end Go.Proofs.YtacgopankhpnbaaGreatDoor
namespace Go.Proofs.YtacgopankhpnbaaGreatDoor
open Go.RowKit
def encA{α:Type}(o:Option Nat)(enc:(Nat->Prop)->World->α->List Value->Prop)(N:Nat->Prop)(w:World)(x:α)(cs:List Value):Prop:=enc (fun b=>N b/\o≠some b) w x cs
theorem encA_ok{α:Type}(o:Option Nat){enc:(Nat->Prop)->World->α->List Value->Prop}(he:eU enc):eU (encA o enc):=fun _ _ _ _ _ _ hm h=>he _ _ _ _ _ _ (fun b hb hl=>⟨⟨(hm b hb.1 hl).1,hb.2⟩,(hm b hb.1 hl).2⟩) h
structure Pair {α β:Type} (k1:Nat) (T1:TypeId) (enc1:(Nat->Prop)->World->α->List Value->Prop) (k2:Nat) (T2:TypeId) (enc2:(Nat->Prop)->World->β->List Value->Prop) (B:Nat) (l1:List α) (c1:List (List Value)) (v1:Value) (l2:List β) (c2:List (List Value)) (v2:Value) (w:World):Prop where
 a:Gro k1 T1 (encA v2.ownBlock enc1) B l1 c1 v1 w
 b:Gro k2 T2 (encA v1.ownBlock enc2) B l2 c2 v2 w
 d:∀b,v1.ownBlock=some b->v2.ownBlock≠some b
section
variable {α β:Type} {k1 k2:Nat} {T1 T2:TypeId} {enc1:(Nat->Prop)->World->α->List Value->Prop} {enc2:(Nat->Prop)->World->β->List Value->Prop} {B:Nat} {l1:List α} {l2:List β} {c1 c2:List (List Value)} {v1 v2:Value} {w w' w9 w10:World}
theorem Pair.swap(h:Pair k1 T1 enc1 k2 T2 enc2 B l1 c1 v1 l2 c2 v2 w):Pair k2 T2 enc2 k1 T1 enc1 B l2 c2 v2 l1 c1 v1 w:=⟨h.b,h.a,fun b hb e=>h.d b e hb⟩
theorem Pair.stays(he1:eU enc1)(he2:eU enc2)(h:Pair k1 T1 enc1 k2 T2 enc2 B l1 c1 v1 l2 c2 v2 w)(hs:dK B w w'):Pair k1 T1 enc1 k2 T2 enc2 B l1 c1 v1 l2 c2 v2 w':=⟨h.a.stays (encA_ok _ he1) hs,h.b.stays (encA_ok _ he2) hs,h.d⟩
theorem Pair.add{x:α}{news:List Value}{g cap n1:Nat}(he1:eU enc1)(he2:eU enc2)(h:Pair k1 T1 enc1 k2 T2 enc2 B l1 c1 v1 l2 c2 v2 w9)(hx:encA v2.ownBlock enc1 (mK B v1) w9 x news)(hk:news.length=k1)
  (hown:w10.ownsRow B T1 k1 (.slice (some ⟨g,0,none⟩) n1 cap) n1 (c1.flatten++news)) (hn:n1=l1.length+1) (hgrow:w9.grownBy w10 v1.ownBlock) (hat:v1.ownBlock=some g\/g=w9.heap.size):
  Pair k1 T1 enc1 k2 T2 enc2 B (l1++[x]) (c1++[news]) (.slice (some ⟨g,0,none⟩) n1 cap) l2 c2 v2 w10:=by
 subst hn;have hlt2:=h.b.lt
 have hg:∀b,b<w9.heap.size->v1.ownBlock≠some b->b≠g:=fun b hb hn e=>by
  subst e;rcases hat with h1|h1
  ·exact hn h1
  ·omega
 refine⟨h.a.added (encA_ok _ he1) hx hk hown hgrow hat,?_,fun b hb e=>?_⟩
 ·refine h.b.change hgrow.size (fun b hb=>hgrow.block b (hlt2 b hb).2 fun e=>h.d b e.symm hb) (fun y c hy=>?_);refine he2 _ _ _ _ _ _ (fun b hb hl=>⟨⟨hb.1,fun e=>?_⟩,fun o u hu=>hgrow.cell hu (fun e=>hb.2 e.symm)⟩) hy;have e:g=b:=zP;exact hg b hl hb.2 e.symm
 ·have hb2:g=b:=zO;subst hb2;rcases hat with h1|h1
  ·exact h.d g h1 e
  ·have:=(hlt2 g e).2;omega
theorem Pair.row(he1:eU enc1)(h:Pair k1 T1 enc1 k2 T2 enc2 B l1 c1 v1 l2 c2 v2 w):aK k1 enc1 (bP B) w v1 l1:=by
 obtain⟨a,c,h1,h2,h3,h4⟩:=h.a.row (encA_ok _ he1);refine⟨a,c,h1,h2,h3,fun hne=>?_⟩;obtain⟨b,o,e1,e2,e3⟩:=h4 hne;refine⟨b,o,e1,e2,fun i x hx=>?_⟩;obtain⟨cs,f1,f2,f3⟩:=e3 i x hx;exact⟨cs,he1.wide f1 (fun b hb _=>hb.1),f2,f3⟩
end
def eY(B C:Nat):Nat->Prop:=fun b=>B<=b/\b<C
theorem aK.betw{α:Type}{k:Nat}{enc:(Nat->Prop)->World->α->List Value->Prop}(he:eU enc)(hk:0<k){B:Nat}{w:World}{v:Value}{l:List α}(h:aK k enc (bP B) w v l):aK k enc (eY B w.heap.size) w v l:=h.moves he (fun _ hb hl=>⟨⟨hb,hl⟩,fun _ _ h=>h⟩) hk
section
variable {T:TypeId} {zero cells:Array Value} {p:Prs} {O S:Nat->Prop} {W w8 w10:World} {b5 B q i0:Nat} {E:World->Prop}
theorem Mk.above(h:Mk T zero p O S W b5 cells E q w8)(hW:p.At W i0)(hb:b5<B)(ho:Off (fun b=>B<=b) w8 w10)(hE:dX (fun b=>B<=b) E):Mk T zero p O S W b5 cells E q w10:=by
 have h1:=h.hb5;exact⟨Off.fresh ((h.off.or _).trans (ho.mono fun b hb=>.inr AP)) (Nat.le_refl _),ho.heap vT h.res,ho.heap vT h.loc,hW.above h.at_ (ho.mono fun b hb=>AP),hE _ _ ho h.enc,h.st,h1,h.sO,h.s5,h.sR,h.sP⟩
theorem Mk.drew(h:Mk T zero p O S W b5 cells E q w8):Mk T zero p O S W b5 cells E q w8.drew:=h.below (aF _)
theorem Mk.wide{S':Nat->Prop}(h:Mk T zero p O S W b5 cells (fun _=>True) q w8)(h1:∀b,S' b->O b\/W.heap.size<b)(h2:¬S' b5)(h3:¬S' W.heap.size)(h4:S' p.pb):Mk T zero p O S' W b5 cells (fun _=>True) q w8:=
 ⟨h.off,h.res,h.loc,h.at_,trivial,dX.true,h.hb5,h1,h2,h3,h4⟩
end
def encM(N:Nat->Prop)(w:World)(m:Mdl)(cs:List Value):Prop:=∃vu vv vi vf vo vw vb,cs=[.string m.name,vu,vv,vi,vf,.bool m.moves,vo,vw,vb]/\m.name.size<=8000/\
 aK 1 bM N w vu m.uses/\aK 3 gP N w vv m.vars/\aK 6 cE N w vi m.init/\aK 12 pN N w vf m.funcs/\aK 3 gP N w vo m.old/\aK 6 cE N w vw m.forward/\aK 6 cE N w vb m.back
theorem encM_ok:eU encM:=fun _ _ _ _ f cs hm h=>by
 obtain⟨vu,vv,vi,vf,vo,vw,vb,h1,h2,h3,h4,h5,h6,h7,h8,h9⟩:=h;exact⟨vu,vv,vi,vf,vo,vw,vb,h1,h2,h3.moves aV hm vV,h4.moves bA hm vV,h5.moves aG hm vV,h6.moves cQ hm vV,h7.moves bA hm vV,h8.moves aG hm vV,h9.moves aG hm vV⟩
theorem bx9{w:World}{b:Nat}{x0 x1 x2 x3 x4 x5 x6 x7 x8:Value}{t:TypeId}(h:w.heap[b]? =some (.cells #[x0,x1,x2,x3,x4,x5,x6,x7,x8] t)):
  (w.cell? ⟨b,0,none⟩=some x0/\w.cell? ⟨b,1,none⟩=some x1/\w.cell? ⟨b,2,none⟩=some x2/\w.cell? ⟨b,3,none⟩=some x3/\w.cell? ⟨b,4,none⟩=some x4/\w.cell? ⟨b,5,none⟩=some x5/\w.cell? ⟨b,6,none⟩=some x6/\w.cell? ⟨b,7,none⟩=some x7/\w.cell? ⟨b,8,none⟩=some x8)/\
  (w.frozen? ⟨b,0,none⟩=false/\w.frozen? ⟨b,1,none⟩=false/\w.frozen? ⟨b,2,none⟩=false/\w.frozen? ⟨b,3,none⟩=false/\w.frozen? ⟨b,4,none⟩=false/\w.frozen? ⟨b,5,none⟩=false/\w.frozen? ⟨b,6,none⟩=false/\w.frozen? ⟨b,7,none⟩=false/\w.frozen? ⟨b,8,none⟩=false):=
 ⟨⟨(bx h 0 rfl).1,(bx h 1 rfl).1,(bx h 2 rfl).1,(bx h 3 rfl).1,(bx h 4 rfl).1,(bx h 5 rfl).1,(bx h 6 rfl).1,(bx h 7 rfl).1,(bx h 8 rfl).1⟩,(bx h 0 (u:=x0) rfl).2,(bx h 1 (u:=x1) rfl).2,(bx h 2 (u:=x2) rfl).2,(bx h 3 (u:=x3) rfl).2,(bx h 4 (u:=x4) rfl).2,(bx h 5 (u:=x5) rfl).2,(bx h 6 (u:=x6) rfl).2,(bx h 7 (u:=x7) rfl).2,(bx h 8 (u:=x8) rfl).2⟩
abbrev eA:Array Value:=#[.string ⟨#[]⟩,.slice none 0 0,.slice none 0 0,.slice none 0 0,.slice none 0 0,.bool false,.slice none 0 0,.slice none 0 0,.slice none 0 0]
def set9(w:World)(b:Nat)(x0 x1 x2 x3 x4 x5 x6 x7 x8:Value):World:=
 ((((((((w.setCell ⟨b,0,none⟩ x0).setCell ⟨b,1,none⟩ x1).setCell ⟨b,2,none⟩ x2).setCell ⟨b,3,none⟩ x3).setCell ⟨b,4,none⟩ x4).setCell ⟨b,5,none⟩ x5).setCell ⟨b,6,none⟩ x6).setCell ⟨b,7,none⟩ x7).setCell ⟨b,8,none⟩ x8
theorem qD(w:World)(b:Nat)(x0 x1 x2 x3 x4 x5 x6 x7 x8:Value):Off (fun k=>k=b) w (set9 w b x0 x1 x2 x3 x4 x5 x6 x7 x8):=by
 unfold set9;exact(Off.refl _ _).one.one.one.one.one.one.one.one.one
section
variable {l:List Tok} {F q:Nat}
theorem uses_stop{out:List ByteArray}(h:isP l q kUse=false):jC l (F+1) out q=.ok (out,q):=by rw[jC,if_neg (by rw[h];simp)]
theorem uses_step{out:List ByteArray}(h:isP l q kUse=true):jC l (F+1) out q=(iI l q out.length 12).bnd fun _ _=>(iQ l (q+1) (fun s=>out.any fun x=>decide (x=s))).bnd fun s j=>(dM l j lM).bnd fun _ k=>jC l F (out++[s]) k:=by rw[jC,if_pos h]
theorem vars_stop{vs:List Fld}{es:List Xp}(h:isP l q kVar=false):jR l (F+1) vs es q=.ok ((vs,es),q):=by rw[jR,if_neg (by rw[h];simp)]
theorem vars_step{vs:List Fld}{es:List Xp}(h:isP l q kVar=true):jR l (F+1) vs es q=(iI l q vs.length 8).bnd fun _ _=>(iQ l (q+1) (fun s=>vs.any fun x=>decide (x.1=s))).bnd fun s j=>(lG l j).bnd fun t j2=>(nE l j2 (decide (cF t<=4)) kEq).bnd fun _ j3=>(nB l j3 lM).bnd fun e k=>jR l F (vs++[(s,t)]) (es++[e]) k:=by rw[jR,if_pos h]
theorem funcs_stop{fs:List Fnc}(h:(isP l q kPub||isP l q kFn)=false):hJ l (F+1) fs q=.ok (fs,q):=by rw[hJ,if_neg (by rw[h];simp)]
theorem funcs_step{fs:List Fnc}(h:(isP l q kPub||isP l q kFn)=true):hJ l (F+1) fs q=(iI l q fs.length 30).bnd fun _ _=>(nW l q (fun s=>fs.any fun x=>decide (x.name=s))).bnd fun x k=>hJ l F (fs++[x]) k:=by rw[hJ,if_pos h]
theorem any_pushS(l:List ByteArray)(a:ByteArray):(eK fun z=>decide (z=a)||l.any fun x=>decide (x=z))=eK fun s=>(l++[a]).any fun x=>decide (x=s):=by
 exact tO
theorem any_pushF(l:List Fnc)(f:Fnc):(eK fun z=>decide (z=f.name)||l.any fun x=>decide (x.name=z))=eK fun s=>(l++[f]).any fun x=>decide (x.name=s):=by
 refine congrArg eK (funext fun z=>?_);simp only[List.any_append,List.any_cons,List.any_nil,Bool.or_false];rw[Bool.or_comm];by_cases h:f.name=z
 ·subst h;rfl
 ·have h2:¬z=f.name:=fun e=>h e.symm;simp only[decide_eq_false h,decide_eq_false h2]
end
structure iR (w:World) (ka na:Nat) (fa:ByteArray->Bool) (kb nb:Nat) (fb:ByteArray->Bool) (kc nc:Nat) (fc:ByteArray->Bool):Prop where
 a:bD eZ dO w ka na (eK fa)
 b:bD eZ dO w kb nb (eK fb)
 c:bD eZ dO w kc nc (eK fc)
section
variable {w w':World} {ka na kb nb kc nc na' nb' nc':Nat} {fa fb fc fa' fb' fc':ByteArray->Bool} {S:Nat->Prop}
theorem iR.off(h:iR w ka na fa kb nb fb kc nc fc)(ho:Off S w w')(hS:¬S ka/\¬S kb/\¬S kc):iR w' ka na fa kb nb fb kc nc fc:=
 ⟨h.a.of_block (ho.block _ h.a.lt hS.1),h.b.of_block (ho.block _ h.b.lt hS.2.1),h.c.of_block (ho.block _ h.c.lt hS.2.2)⟩
theorem iR.later(h:iR w ka na fa kb nb fb kc nc fc)(hb:Below w.heap.size w w'):iR w' ka na fa kb nb fb kc nc fc:=⟨h.a.later hb,h.b.later hb,h.c.later hb⟩
theorem iR.putA(h:iR w ka na fa kb nb fb kc nc fc)(ho:Off S w w')(hS:¬S kb/\¬S kc)(hm:bD eZ dO w' ka na' (eK fa')):iR w' ka na' fa' kb nb fb kc nc fc:=⟨hm,h.b.of_block (ho.block _ h.b.lt hS.1),h.c.of_block (ho.block _ h.c.lt hS.2)⟩
theorem iR.putB(h:iR w ka na fa kb nb fb kc nc fc)(ho:Off S w w')(hS:¬S ka/\¬S kc)(hm:bD eZ dO w' kb nb' (eK fb')):iR w' ka na fa kb nb' fb' kc nc fc:=⟨h.a.of_block (ho.block _ h.a.lt hS.1),hm,h.c.of_block (ho.block _ h.c.lt hS.2)⟩
theorem iR.putC(h:iR w ka na fa kb nb fb kc nc fc)(ho:Off S w w')(hS:¬S ka/\¬S kb)(hm:bD eZ dO w' kc nc' (eK fc')):iR w' ka na fa kb nb fb kc nc' fc':=⟨h.a.of_block (ho.block _ h.a.lt hS.1),h.b.of_block (ho.block _ h.b.lt hS.2),hm⟩
end
theorem qM{α:Type}{k:Nat}{T T0 Te:TypeId}{zero cells cells':Array Value}{p:Prs}{O S:Nat->Prop}{W w12 w13:World}{b5 B q i0 g cap n1 j:Nat}{E:World->Prop}{enc:(Nat->Prop)->World->α->List Value->Prop}{l:List α}{css:List (List Value)}{v:Value}{x:α}{news:List Value}
  (hS:Mk T zero p O S W b5 cells E q w12) (hW:p.At W i0) (hb:b5<B) (hG:Gro k Te enc B l css v w12) (he:eU enc) (hx:enc (mK B v) w12 x news) (hk:news.length=k) (hE:dX (fun b=>B<=b) E)
  (hown:w13.ownsRow B Te k (.slice (some ⟨g,0,none⟩) n1 cap) n1 (css.flatten++news)) (hn:n1=l.length+1) (hgrow:(w12.alloc (.cells news.toArray T0)).grownBy w13 v.ownBlock) (hat:v.ownBlock=some g\/g=w12.heap.size+1) (hc:cells.setIfInBounds j (.slice (some ⟨g,0,none⟩) n1 cap)=cells'):
  w13.heap[b5]? =some (.cells cells T)/\Mk T zero p O S W b5 cells' E q (w13.setCell ⟨b5,j,none⟩ (.slice (some ⟨g,0,none⟩) n1 cap))/\Gro k Te enc B (l++[x]) (css++[news]) (.slice (some ⟨g,0,none⟩) n1 cap) (w13.setCell ⟨b5,j,none⟩ (.slice (some ⟨g,0,none⟩) n1 cap))/\
  Off (fun b=>B<=b\/b=b5) w12 (w13.setCell ⟨b5,j,none⟩ (.slice (some ⟨g,0,none⟩) n1 cap)):=by
 subst hn;have hbl:=aA w12 (.cells news.toArray T0);have hG9:=hG.later he hbl;have hlt:=hG9.lt;have hz:(w12.alloc (.cells news.toArray T0)).heap.size=w12.heap.size+1:=vZ;have oG:Off (fun b=>B<=b) w12 w13:=(Off.of_below hbl).trans ⟨hgrow.os,hgrow.tape,hgrow.output,hgrow.size,fun b hb hn=>hgrow.block b hb (fun e=>hn (hlt b e.symm).1)⟩;have hG13:=hG9.added he (he _ _ _ _ _ _ (bX.later hbl) hx) hk hown hgrow (by rw[hz];exact hat);have hS13:=hS.above hW hb oG hE;have o14:Off (fun b=>b=b5) w13 (w13.setCell ⟨b5,j,none⟩ (.slice (some ⟨g,0,none⟩) (l.length+1) cap)):=Off.setCell (S:=fun b=>b=b5) w13 rfl;exact⟨hS13.loc,hS13.put hW o14 (by rw[aU hS13.loc,hc]),hG13.stays he (dK.of_off o14 fun b hb2=>.inl AF),(oG.mono fun b hb=>.inl hb).trans (o14.mono fun b hb=>.inr hb)⟩
theorem grow_pair{α β:Type}{k k2:Nat}{T T0 Te Te2:TypeId}{zero cells cells':Array Value}{p:Prs}{O S:Nat->Prop}{W w12 w13:World}{b5 B q i0 g cap n1 j:Nat}{E:World->Prop}{enc:(Nat->Prop)->World->α->List Value->Prop}{enc2:(Nat->Prop)->World->β->List Value->Prop}{l:List α}{l2:List β}{css css2:List (List Value)}{v v2:Value}{x:α}{news:List Value}
  (hS:Mk T zero p O S W b5 cells E q w12) (hW:p.At W i0) (hb:b5<B) (hP:Pair k Te enc k2 Te2 enc2 B l css v l2 css2 v2 w12) (he:eU enc) (he2:eU enc2) (hx:encA v2.ownBlock enc (mK B v) w12 x news) (hk:news.length=k) (hE:dX (fun b=>B<=b) E)
  (hown:w13.ownsRow B Te k (.slice (some ⟨g,0,none⟩) n1 cap) n1 (css.flatten++news)) (hn:n1=l.length+1) (hgrow:(w12.alloc (.cells news.toArray T0)).grownBy w13 v.ownBlock) (hat:v.ownBlock=some g\/g=w12.heap.size+1) (hc:cells.setIfInBounds j (.slice (some ⟨g,0,none⟩) n1 cap)=cells'):
  w13.heap[b5]? =some (.cells cells T)/\Mk T zero p O S W b5 cells' E q (w13.setCell ⟨b5,j,none⟩ (.slice (some ⟨g,0,none⟩) n1 cap))/\Pair k Te enc k2 Te2 enc2 B (l++[x]) (css++[news]) (.slice (some ⟨g,0,none⟩) n1 cap) l2 css2 v2 (w13.setCell ⟨b5,j,none⟩ (.slice (some ⟨g,0,none⟩) n1 cap))/\
  Off (fun b=>B<=b\/b=b5) w12 (w13.setCell ⟨b5,j,none⟩ (.slice (some ⟨g,0,none⟩) n1 cap)):=by
 have hbl:=aA w12 (.cells news.toArray T0);have hP9:=hP.stays he he2 (.of_below hbl);have hlt:=hP9.a.lt;have hz:(w12.alloc (.cells news.toArray T0)).heap.size=w12.heap.size+1:=vZ;have oG:Off (fun b=>B<=b) w12 w13:=(Off.of_below hbl).trans ⟨hgrow.os,hgrow.tape,hgrow.output,hgrow.size,fun b hb hn=>hgrow.block b hb (fun e=>hn (hlt b e.symm).1)⟩;have hP13:=hP9.add he he2 (encA_ok _ he _ _ _ _ _ _ (bX.later hbl) hx) hk hown hn hgrow (by rw[hz];exact hat);have hS13:=hS.above hW hb oG hE;have o14:Off (fun b=>b=b5) w13 (w13.setCell ⟨b5,j,none⟩ (.slice (some ⟨g,0,none⟩) n1 cap)):=Off.setCell (S:=fun b=>b=b5) w13 rfl;exact⟨hS13.loc,hS13.put hW o14 (by rw[aU hS13.loc,hc]),hP13.stays he he2 (dK.of_off o14 fun b hb2=>.inl AF),(oG.mono fun b hb=>.inl hb).trans (o14.mono fun b hb=>.inr hb)⟩
theorem fresh_off{α:Type}{enc:(Nat->Prop)->World->α->List Value->Prop}(he:eU enc){B C:Nat}{w:World}{v:Value}{x:α}{cs:List Value}(h:enc (bP C) w x cs)(hB:B<=C)(hv:∀b,v.ownBlock=some b->b<C):enc (mK B v) w x cs:=
 he.wide h fun b hb _=>⟨by have hb:C<=b:=hb;omega,fun e=>by have hb:C<=b:=hb;have:=hv b e;omega⟩
theorem fresh_offA{α:Type}{enc:(Nat->Prop)->World->α->List Value->Prop}(he:eU enc){B C:Nat}{w:World}{v v2:Value}{x:α}{cs:List Value}(h:enc (bP C) w x cs)(hB:B<=C)(hv:∀b,v.ownBlock=some b->b<C)(hv2:∀b,v2.ownBlock=some b->b<C):encA v2.ownBlock enc (mK B v) w x cs:=
 he.wide h fun b hb _=>⟨⟨by have hb:C<=b:=hb;omega,fun e=>by have hb:C<=b:=hb;have:=hv b e;omega⟩,fun e=>by have hb:C<=b:=hb;have:=hv2 b e;omega⟩
section
variable {l:List Tok}
theorem fieldsFrom_len{most:Nat}:∀(F:Nat)(fs:List Fld)(i:Nat)(r:List Fld)(j:Nat),fs.length<=most->eI l most F fs i=.ok (r,j)->r.length<=most
 |0,fs,i,r,j,hl,h=>by unfold eI at h;cases h;exact hl
 |F+1,fs,i,r,j,hl,h=>by
  cases hq:dJ l i with
  |false=>rw[pM hq] at h;cases h
  |true=>
   by_cases hm:fs.length<most
   ·rw[kT hq hm] at h;obtain⟨s,j1,-,h⟩:=PR.of_bnd h;obtain⟨t,j2,-,h⟩:=PR.of_bnd h;obtain⟨q,j3,-,h⟩:=PR.of_bnd h;split at h
    ·cases h;simp;omega
    ·exact fieldsFrom_len F _ _ r j wQ h
   ·rw[fieldsFrom_full hq hm] at h;cases h
theorem fieldsP_len{most i j:Nat}{r:List Fld}(h:kS l most i=.ok (r,j)):r.length<=most:=by
 unfold kS at h;obtain⟨_,j1,-,h⟩:=PR.of_bnd h;split at h
 ·cases h;simp
 ·exact fieldsFrom_len _ _ _ _ _ vZ h
theorem moveP_no{n i:Nat}(h:isP l i kMove=false):moveP l n i=.ok ((false,[],[],[]),i):=by unfold moveP;rw[if_neg (by rw[h];simp)]
theorem moveP_yes{n i:Nat}(h:isP l i kMove=true):moveP l n i=(kS l 8 (i+1)).bnd fun old j=>(dM l j kForward).bnd fun _ j2=>(iU l n j2 kBack).bnd fun fw j3=>(iU l old.length j3 lM).bnd fun bk k=>.ok ((true,old,fw,bk),k):=by unfold moveP;rw[if_pos h]
end
def modK4(l:List Tok)(name:ByteArray)(us:List ByteArray)(ve:List Fld×List Xp)(fs:List Fnc)(i6:Nat):PR Mdl:=(moveP l ve.1.length i6).bnd fun mv i7=>if(aH l i7).kind=3 then .ok (⟨name,us,ve.1,ve.2,fs,mv.1,mv.2.1,mv.2.2.1,mv.2.2.2⟩,i7) else kQ l i7 11
def modK3(l:List Tok)(name:ByteArray)(us:List ByteArray)(ve:List Fld×List Xp)(i5:Nat):PR Mdl:=(hJ l (l.length+1) [] i5).bnd fun fs i6=>modK4 l name us ve fs i6
def modK2(l:List Tok)(name:ByteArray)(us:List ByteArray)(i4:Nat):PR Mdl:=(jR l (l.length+1) [] [] i4).bnd fun ve i5=>modK3 l name us ve i5
def modK5(l:List Tok)(name:ByteArray)(us:List ByteArray)(ve:List Fld×List Xp)(fs:List Fnc)(mv:Bool×List Fld×List Xp×List Xp)(i7:Nat):PR Mdl:=if(aH l i7).kind=3 then .ok (⟨name,us,ve.1,ve.2,fs,mv.1,mv.2.1,mv.2.2.1,mv.2.2.2⟩,i7) else kQ l i7 11
theorem modK4_eq(l:List Tok)(name:ByteArray)(us:List ByteArray)(ve:List Fld×List Xp)(fs:List Fnc)(i:Nat):modK4 l name us ve fs i=(moveP l ve.1.length i).bnd fun mv i7=>modK5 l name us ve fs mv i7:=rfl
theorem modK4_yes{l:List Tok}{name:ByteArray}{us:List ByteArray}{vs:List Fld}{es:List Xp}{fs:List Fnc}{i:Nat}(h:isP l i kMove=true):modK4 l name us (vs,es) fs i=((kS l 8 (i+1)).bnd fun old j=>(dM l j kForward).bnd fun _ j2=>(iU l vs.length j2 kBack).bnd fun fw j3=>(iU l old.length j3 lM).bnd fun bk k=>.ok ((true,old,fw,bk),k)).bnd fun mv i7=>modK5 l name us (vs,es) fs mv i7:=by
 rw[modK4_eq,moveP_yes h]
theorem moduleP_eq(l:List Tok):iC l=(dM l 0 kModule).bnd fun _ i=>(gL l i).bnd fun name i2=>(dM l i2 lM).bnd fun _ i3=>(jC l (l.length+1) [] i3).bnd fun us i4=>modK2 l name us i4:=rfl
theorem fnInfo:(Tryz.prog.info? 179).map (fun i=>(i.zero,i.size,i.bytes))=some (some (.agg #[.string ByteArray.empty,.bool false,.slice none 0 0,.int .i64 0,.slice none 0 0,.int .i64 0,.int .i64 0,.int .i64 0,.string ByteArray.empty,.string ByteArray.empty,.slice none 0 0,.slice none 0 0]),12,184):=vU
end Go.Proofs.YtacgopankhpnbaaGreatDoor
