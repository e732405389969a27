/- Texts of this seat, joined. -/
import Derived.Great.BuildSlice
import Derived.Test.YtiionicikdnnpaaGreatDoorPZ
set_option maxHeartbeats 8000000
set_option maxRecDepth 100000
set_option linter.unusedVariables false
set_option linter.unusedSimpArgs false
set_option linter.constructorNameAsVariable false
namespace Go.Proofs.YtiionicikdnnpaaGreatDoor
open Go.RowKit
section
variable {o:Oper} {a:Act} {w:World} {K:Act->World->Prop} {Q:Exit->Act->World->Prop}
theorem xpSize:(Tryz.prog.info? 35).map (·.size)=some 6:=VT
theorem xp_load(g:Nat){c0 c1 c2 c3 c4 c5:Value}(hg:w.heap[g]? =some (.cells #[c0,c1,c2,c3,c4,c5] 35))(x:Operand)(ho:o.op=.load 35 x)(hx:a.eval x=.pointer (some ⟨g,0,none⟩))
  (h:K (a.put o.dst (.agg #[c0,c1,c2,c3,c4,c5])) w):o.wp Tryz.prog a w K Q:=
 wp_load_row _ x ho g hx _ _ _ _ hg Tryz.underlying35 rfl xpSize h
theorem mV(g:Nat){z0 z1 z2 z3 z4 z5 c0 c1 c2 c3 c4 c5:Value}(hg:w.heap[g]? =some (.cells #[z0,z1,z2,z3,z4,z5] 35))(x y:Operand)(ho:o.op=.store 35 x y)(hx:a.eval x=.pointer (some ⟨g,0,none⟩))(hy:a.eval y=.agg #[c0,c1,c2,c3,c4,c5])(h1:#[c0,c1,c2,c3,c4,c5].all (·.oneCell')=true)
  (h:K (a.put o.dst undef) (w.setRow g #[c0,c1,c2,c3,c4,c5])):o.wp Tryz.prog a w K Q:=
 wp_store_row _ x y ho g _ hx hy _ _ hg xpSize rfl h1 h
theorem xp_slice1{c0 c1 c2 c3 c4 c5:Value}(x:Operand)(ho:o.op=.buildSlice 25 1 #[(0,x)])(hx:a.eval x=.agg #[c0,c1,c2,c3,c4,c5])
  (h:K (a.put o.dst (.slice (some ⟨w.heap.size,0,none⟩) 1 1)) (w.alloc (.cells #[c0,c1,c2,c3,c4,c5] 35))):o.wp Tryz.prog a w K Q:=by
 obtain⟨ie,hie,hz,hs,-⟩:=info_parts xpInfo;refine wp_buildSlice _ _ 1 _ ho #[c0,c1,c2,c3,c4,c5] ie _ Tryz.underlying25 hie hz (by rw[hs];decide) (by rw[hs];decide) ?_ h;rw[hs];simp only[List.map_toArray,List.map_cons,List.map_nil,hx]
 kernel_rfl
theorem xp_slice2{c0 c1 c2 c3 c4 c5 d0 d1 d2 d3 d4 d5:Value}(x y:Operand)(ho:o.op=.buildSlice 25 2 #[(0,x),(1,y)])(hx:a.eval x=.agg #[c0,c1,c2,c3,c4,c5])(hy:a.eval y=.agg #[d0,d1,d2,d3,d4,d5])
  (h:K (a.put o.dst (.slice (some ⟨w.heap.size,0,none⟩) 2 2)) (w.alloc (.cells #[c0,c1,c2,c3,c4,c5,d0,d1,d2,d3,d4,d5] 35))):o.wp Tryz.prog a w K Q:=by
 obtain⟨ie,hie,hz,hs,-⟩:=info_parts xpInfo;refine wp_buildSlice _ _ 2 _ ho #[c0,c1,c2,c3,c4,c5,d0,d1,d2,d3,d4,d5] ie _ Tryz.underlying25 hie hz (by rw[hs];decide) (by rw[hs];decide) ?_ h;rw[hs];simp only[List.map_toArray,List.map_cons,List.map_nil,hx,hy]
 kernel_rfl
end
theorem row_off(w:World)(g:Nat)(cs:Array Value):Off (fun b=>b=g) w (w.setRow g cs):=⟨rfl,rfl,rfl,VY,fun k _ hn=>setRow_other w g k cs hn⟩
end Go.Proofs.YtiionicikdnnpaaGreatDoor
namespace Go.Proofs.YtiionicikdnnpaaGreatDoor
open Go.RowKit
theorem UI{p:Prop}(h:p:=by
 obtain⟨_,_,-,h⟩:=PR.of_bnd h;obtain⟨_,_,-,h⟩:=PR.of_bnd h;obtain⟨_,_,-,h⟩:=PR.of_bnd h;obtain⟨_,_,-,h⟩:=PR.of_bnd h;obtain⟨_,_,-,h⟩:=PR.of_bnd h;cases h;exact Nat.zero_le _):p:=h
def kM:List Value:=(eP.map fun o=>[Value.string o.1,.int .i64 o.2.1,.int .i64 (o.2.2:Int)]).flatten
theorem operators_any(w:World):Calls Tryz.prog 135 #[] w fun e w'=>e=.returned (.slice (some ⟨w.heap.size,0,none⟩) 7 7)/\w'=w.alloc (.cells kM.toArray 166):=by
 go_enter Tryz.func135,Tryz.ntmps135
 go_wp2
 go_ret;exact⟨rfl,rfl⟩
theorem opers_one{l:List Tok}{i a b:Nat}{x y:bA×Int×Nat}(hx:eP[a]? =some x)(hy:eP[b]? =some y)(h1:isP l i x.1=true)(h2:isP l i y.1=true):a=b:=by
 unfold isP at h1 h2;simp only[Bool.and_eq_true,decide_eq_true_eq] at h1 h2;have e:x.1=y.1:=h1.2.symm.trans h2.2;have ha:=(Yb.1 hx).1;have hb:=(Yb.1 hy).1;have key:∀a b:Fin 7,(eP.map fun o=>o.1.data.toList)[a.1]? =(eP.map fun o=>o.1.data.toList)[b.1]? ->a=b:=VU;have sU:a<7:=ha;have uN:b<7:=hb;have:=key ⟨a,sU⟩ ⟨b,uN⟩ (by simp only[List.getElem?_map,hx,hy,Option.map_some,e]);exact congrArg Fin.val this
structure ExL (p:Prs) (W:World) (b5:Nat) (x:Xp) (cs:List Value) (q:Nat) (wr:World):Prop where
 off:Off p.S W wr
 res:wr.heap[W.heap.size]? =some (.cells bG 35)
 loc:wr.heap[b5]? =some (.cells cs.toArray 35)
 enc:aU (fun b=>W.heap.size<b/\b≠b5) wr x cs
 b5:W.heap.size<b5
 pb:p.pb<W.heap.size
 at_:p.At wr q
section
variable {p:Prs} {W wr w':World} {b5 q j:Nat} {x y:Xp} {cs:List Value}
theorem ExL.next(h:ExL p W b5 x cs q wr)(ho:Off p.S wr w')(ha:p.At w' j):ExL p W b5 x cs j w':=by
 have uS:=h.pb;have hb:=h.b5;exact⟨h.off.trans ho,ho.heap (fun e=>by have e:W.heap.size=p.pb:=e;omega) h.res,ho.heap (fun e=>by have e:b5=p.pb:=e;omega) h.loc,aG.off h.enc ho (fun b pM hn=>by have pM:b=p.pb:=pM;have:=hn.1;omega),hb,uS,ha⟩
theorem ExL.below(h:ExL p W b5 x cs q wr)(hb:Below wr.heap.size wr w'):ExL p W b5 x cs q w':=h.next (Ba hb) (h.at_.later hb)
theorem ExL.put{i0:Nat}{z0 z1 z2 z3 z4 z5 y0 y1 y2 y3 y4 y5:Value}(h:ExL p W b5 x [z0,z1,z2,z3,z4,z5] q wr)(hW:p.At W i0)(hx:aU (fun b=>W.heap.size<b/\b≠b5) wr y [y0,y1,y2,y3,y4,y5]):
  ExL p W b5 y [y0,y1,y2,y3,y4,y5] q (wr.setRow b5 #[y0,y1,y2,y3,y4,y5]):=by
 have o:=row_off wr b5 #[y0,y1,y2,y3,y4,y5];have hb:=h.b5;exact⟨Off.fresh ((h.off.or _).trans (o.mono fun b pM=>.inr Y7)) (Nat.le_refl _),o.heap VS h.res,setRow_heap _ _ _ _ _ _ h.loc,aG.off hx o (fun b pM hn=>hn.2 pM),hb,h.pb,hW.above h.at_ (o.mono fun b pM=>Y7)⟩
end
section
variable {l:List Tok} {rec:RecP} {form own F q:Nat} {e:Xp}
theorem dots_no(h:isP l q kG=false):lX l (F+1) e q=.ok (e,q):=by rw[lX,if_neg (by rw[h];simp)]
theorem dots_yes(h:isP l q kG=true):lX l (F+1) e q=(fR l (q+1)).bnd fun s j=>lX l F (.mk 14 0 s noB [] [e]) j:=by rw[lX,if_pos h]
theorem ops_none(h:lA l q=none):nM l rec form (F+1) own e q=.ok (e,q):=by rw[nM,h]
theorem ops_stop{t:bA}{op:Int}{fm:Nat}(h:lA l q=some (t,op,fm))(hc:fm<form\/own<fm\/(own=4/\fm=4)):nM l rec form (F+1) own e q=.ok (e,q):=by rw[nM,h];simp only;rw[if_pos hc]
theorem ops_on{t:bA}{op:Int}{fm:Nat}(h:lA l q=some (t,op,fm))(hc:¬(fm<form\/own<fm\/(own=4/\fm=4))):nM l rec form (F+1) own e q=(rec (fm+1) (q+1)).bnd fun b j=>nM l rec form F fm (.mk op 0 noB noB [] [e,b]) j:=by rw[nM,h];simp only;rw[if_neg hc]
end
def opSeen(l:List Tok)(q k:Nat):bA×Int×Nat:=((eP.take k).find? fun o=>isP l q o.1).getD (⟨#[]⟩,0,0)
theorem opSeen_all(l:List Tok)(q:Nat):opSeen l q 7=(lA l q).getD (⟨#[]⟩,0,0):=rfl
theorem opSeen_no{l:List Tok}{q k:Nat}{o:bA×Int×Nat}(hk:eP[k]? =some o)(hn:isP l q o.1=false):opSeen l q (k+1)=opSeen l q k:=by
 unfold opSeen;rw[List.take_add_one,hk,List.find?_append];simp[hn]
theorem opSeen_yes{l:List Tok}{q k:Nat}{o:bA×Int×Nat}(hk:eP[k]? =some o)(hy:isP l q o.1=true):opSeen l q (k+1)=o:=by
 unfold opSeen;rw[List.take_add_one,hk,List.find?_append]
 cases hf:(eP.take k).find? fun o=>isP l q o.1 with
 |none=>simp[hy]
 |some y=>
  have hy2:=List.find?_some hf;have hm:=List.mem_of_find?_eq_some hf;obtain⟨a,ha⟩:=List.mem_iff_getElem?.1 hm
  have pS:a<k:=by
   have:=(Yb.1 ha).1;simp at this;omega
  rw[List.getElem?_take,if_pos pS] at ha;have:=opers_one ha hk hy2 hy;omega
theorem opers_at{k:Nat}{t:bA}{op:Int}{fm:Nat}(hk:eP[k]? =some (t,op,fm)):kM[k*3]? =some (.string t)/\kM[k*3+1]? =some (.int .i64 op)/\kM[k*3+2]? =some (.int .i64 (fm:Int)):=by
 have h7:k<7:=(Yb.1 hk).1
 match k,h7,hk with
 |0,_,hk=>cases hk;exact⟨rfl,rfl,rfl⟩
 |1,_,hk=>cases hk;exact⟨rfl,rfl,rfl⟩
 |2,_,hk=>cases hk;exact⟨rfl,rfl,rfl⟩
 |3,_,hk=>cases hk;exact⟨rfl,rfl,rfl⟩
 |4,_,hk=>cases hk;exact⟨rfl,rfl,rfl⟩
 |5,_,hk=>cases hk;exact⟨rfl,rfl,rfl⟩
 |6,_,hk=>cases hk;exact⟨rfl,rfl,rfl⟩
theorem operAt_ok{l:List Tok}{q:Nat}{t:bA}{op:Int}{fm:Nat}(h:lA l q=some (t,op,fm)):¬t=⟨#[]⟩/\fm<=6/\isP l q t=true:=by
 have hm:=List.mem_of_find?_eq_some h;have hp:=List.find?_some h;refine⟨?_,?_,hp⟩
 ·simp only[eP,List.mem_cons,List.not_mem_nil,or_false,Prod.mk.injEq] at hm;rcases hm with⟨rfl,-,-⟩|⟨rfl,-,-⟩|⟨rfl,-,-⟩|⟨rfl,-,-⟩|⟨rfl,-,-⟩|⟨rfl,-,-⟩|⟨rfl,-,-⟩<;>decide
 simp only[eP,List.mem_cons,List.not_mem_nil,or_false,Prod.mk.injEq] at hm;rcases hm with⟨-,-,rfl⟩|⟨-,-,rfl⟩|⟨-,-,rfl⟩|⟨-,-,rfl⟩|⟨-,-,rfl⟩|⟨-,-,rfl⟩|⟨-,-,rfl⟩<;>decide
structure OpI (p:Prs) (W:World) (b5:Nat) (x:Xp) (cs:List Value) (q g:Nat) (seen:bA×Int×Nat) (wr:World):Prop where
 ex:ExL p W b5 x cs q wr
 xc:wr.heap[g]? =some (oV seen.1 seen.2.1 (seen.2.2:Int))
 oc:wr.heap[g+1]? =some (.cells kM.toArray 166)
 lt:b5<g
 en:aU (fun b=>W.heap.size<b/\b≠b5/\b<g) wr x cs
theorem ExL.search{p:Prs}{W wr:World}{b5 q:Nat}{x:Xp}{cs:List Value}(h:ExL p W b5 x cs q wr):
  OpI p W b5 x cs q wr.heap.size (⟨#[]⟩,0,0) ((wr.alloc (oV ⟨#[]⟩ 0 0)).alloc (.cells kM.toArray 166)):=by
 have b1:=aC wr (oV ⟨#[]⟩ 0 0);have b2:=aC (wr.alloc (oV ⟨#[]⟩ 0 0)) (.cells kM.toArray 166);have hz:=(Array.getElem?_eq_some_iff.1 h.loc).1;have hn:=bY (wr.alloc (oV ⟨#[]⟩ 0 0)) (.cells kM.toArray 166);rw[show(wr.alloc (oV ⟨#[]⟩ 0 0)).heap.size=wr.heap.size+1 by simp] at hn;exact⟨(h.below b1).below b2,aD b2 (bY wr _),hn,hz,aG _ _ _ _ _ _ (fun b hb hl=>⟨⟨hb.1,hb.2,hl⟩,fun o u hu=>aB (aA b1 b2) hu⟩) h.enc⟩
section
variable {p:Prs} {W wr w':World} {b5 q g:Nat} {x:Xp} {cs:List Value} {seen:bA×Int×Nat}
theorem OpI.below(h:OpI p W b5 x cs q g seen wr)(hb:Below wr.heap.size wr w'):OpI p W b5 x cs q g seen w':=⟨h.ex.below hb,aD hb h.xc,aD hb h.oc,h.lt,aG _ _ _ _ _ _ (aK.later hb) h.en⟩
theorem OpI.put{i0:Nat}{t:bA}{op:Int}{fm:Nat}(h:OpI p W b5 x cs q g seen wr)(hW:p.At W i0):OpI p W b5 x cs q g (t,op,fm) (((wr.setCell ⟨g,0,none⟩ (.string t)).setCell ⟨g,1,none⟩ (.int .i64 op)).setCell ⟨g,2,none⟩ (.int .i64 (fm:Int))):=by
 have o:Off (fun b=>b=g) wr (((wr.setCell ⟨g,0,none⟩ (.string t)).setCell ⟨g,1,none⟩ (.int .i64 op)).setCell ⟨g,2,none⟩ (.int .i64 (fm:Int))):=(((Off.setCell (b:=g) wr rfl).trans (Off.setCell _ rfl)).trans (Off.setCell _ rfl)).mono fun b hb=>Eq.symm hb;have hb:=h.ex.b5;have hl:=h.lt;have hc:=h.xc;have PS:=aG.off h.en o fun b pM hn=>by have pM:b=g:=pM;have:=hn.2.2;omega
 refine⟨⟨Off.fresh ((h.ex.off.or _).trans (o.mono fun b pM=>.inr (by have pM:b=g:=pM;omega))) (Nat.le_refl _),o.heap VS h.ex.res,o.heap VS h.ex.loc,?_,hb,h.ex.pb,hW.above h.ex.at_ (o.mono fun b pM=>by have pM:b=g:=pM;omega)⟩,?_,o.heap VS h.oc,hl,PS⟩
 ·exact aG.wide PS fun b pR _=>⟨pR.1,pR.2.1⟩
 rw[aW (aW (aW hc _) _) _];rfl
end
theorem lR{t:bA}(h:t.toList=[]):t=⟨#[]⟩:=by
 have h1:=eE t ⟨#[]⟩;rw[h,mX (s:=⟨#[]⟩) rfl] at h1;exact of_decide_eq_true h1.symm
theorem prefix_own{l:List Tok}{rec:RecP}{form i j:Nat}{r:Xp×Nat}(h:cK l rec form i=.ok (r,j)):r.2<=8:=by
 unfold cK at h;split at h
 ·exact UI
 split at h
 ·exact UI
 split at h
 ·obtain⟨_,_,-,h⟩:=PR.of_bnd h;obtain⟨_,_,-,h⟩:=PR.of_bnd h;cases h;exact Nat.zero_le _
 split at h
 ·obtain⟨_,_,-,h⟩:=PR.of_bnd h;cases h;show 3<=8;decide
 obtain⟨_,_,-,h⟩:=PR.of_bnd h;cases h;show 8<=8;decide
end Go.Proofs.YtiionicikdnnpaaGreatDoor
namespace Go.Proofs.YtiionicikdnnpaaGreatDoor
open Go.RowKit
theorem RW{p:Prop}(h:p:=by
 have BQ:=isP_lt HI.out.ex.at_ htq;have b1:=HI.out.ex.at_.box1;have QC:=HI.out.ex.at_.froz;have IK:=HI.out.ex.at_.bound;have sI:=HI.out.ex.at_.step BQ;have PO:wr.heap.size≠p.pb:=by have:=HI.out.ex.pb;have:=HI.out.ex.b5;have:=HI.out.lt;omega
 go_wp2_with fail;have wG:Hid (ExL p w b5 x [.int .i64 op,.int .i64 n,.string s,.string m,.slice a1 n1 c1,.slice a2 n2 c2] (q+1) (w2.setCell ⟨p.pb,1,none⟩ (.int .i64 ((q:Int)+1)))):=zh (HI.out.ex.next sI.2 sI.1);have tF:Hid ((w2.setCell ⟨p.pb,1,none⟩ (.int .i64 ((q:Int)+1))).heap[wr.heap.size]? =some (oV t2 sH (wK:Int))):=zh (sI.2.heap (fun e=>PO e) HI.out.xc);have NE:Hid (p.At (w2.setCell ⟨p.pb,1,none⟩ (.int .i64 ((q:Int)+1))) (q+1)):=zh sI.1;have hq5:=HB.out.1;have hq6:=HB.out.2;clear sI b1 QC k0 k1 k2 j0 j1 j2 vT HI qO hte htq htn;generalize (w2.setCell ⟨p.pb,1,none⟩ (.int .i64 ((q:Int)+1)))=w4 at *;generalize wr.heap.size=g at *;have hgw:=(Array.getElem?_eq_some_iff.1 tF.out).1;refine wp_region_held_drew (S:=(fun W=>W.heap[g]? =some (oV t2 sH (wK:Int)))) VT (aD (aE _) tF.out) fun hS=>?_;refine zq 0 (.pointer (some ⟨g,1,none⟩)) rfl ?_;refine zt 1 (.int .i64 sH) rfl (fun W hW=>by(obtain⟨⟨k0,k1,k2⟩,j0,j1,j2⟩:=bx3 hW);go_simp) ?_;refine zq 3 (.pointer (some ⟨p.pb,0,none⟩)) rfl ?_;refine zq 4 (.pointer (some ⟨g,2,none⟩)) rfl ?_;refine zt 5 (.int .i64 (wK:Int)) rfl (fun W hW=>by(obtain⟨⟨k0,k1,k2⟩,j0,j1,j2⟩:=bx3 hW);go_simp) ?_;refine zt 6 (.int .i64 ((wK:Int)+1)) rfl (fun W hW=>by have hfmw:IntKind.i64.wrap ((wK:Int)+1)=(wK:Int)+1:=WY;go_simp) ?_;try simp only[zn]
 refine wpAnyH_ready (rs:=[2,7]) VT VY ?_;refine AllReadyH.cons rfl (fun K hK=>?_) (AllReadyH.cons rfl (fun K hK=>?_) AllReadyH.nil)
 ·rw[if_pos VT];try simp only[z1,z2,z3]
  refine xp_load b5 (wG.out.below (aE _)).loc _ rfl rfl ?_;refine hK.out _ _ (hS) (fun hS=>?_);clear hK K;try simp only[zn]
  refine zr 7 rfl (fun K hK=>?_);try simp only[z1,z2,z3]
  go_simp;refine(HE.out (wK+1) (q+1) w4.drew (NE.out.later (aE _)) VS VS).mono ?_;rintro e w5 (⟨x5,rP,rfl,qS⟩|⟨xb,jb,rP,⟨⟨opc,nc,sc,mc,pc,qc,rc,tc,uc,vc,rfl,C2⟩,tG,FK⟩,qS⟩)
  ·go_wp2_with fail;exact⟨rfl,Ran.bad' (wR.out.trans (PR.bnd_bad rP)) (wG.out.off.trans ((Ba (aE _)).trans qS))⟩
  have uO:=zh ((wG.out.below (aE _)).next qS tG);have RM:=zh C2;have D9:=zh (wR.out.trans (PR.bnd_ok rP));have yS:w4.heap.size<=w5.heap.size:=qS.size;have P5:=qS.heap (show g≠p.pb from VS) hS;clear tG qS C2 rP;refine hK.out _ _ (P5) (fun hS=>?_);clear hK K;try simp only[zn]
  have xZ:=zh (uO.out.below (aC w5 (fT op n s m a1 n1 c1 a2 n2 c2 opc nc sc mc pc qc rc tc uc vc)));have zG:=zh (xZ.out.put HW.out (y:=.mk sH 0 noB noB [] [x,xb]) (y0:=.int .i64 sH) (y1:=.int .i64 0) (y2:=.string ⟨#[]⟩) (y3:=.string ⟨#[]⟩) (y4:=.slice none 0 0) (y5:=.slice (some ⟨w5.heap.size,0,none⟩) 2 2) V2);refine zr 8 rfl (fun K hK=>?_);try simp only[z1,z2,z3]
  refine xp_slice2 _ _ rfl rfl rfl ?_;refine hK.out _ _ (aD (aC w5 _) hS) (fun hS=>?_);clear hK K;refine zq 9 (bW sH 0 ⟨#[]⟩ ⟨#[]⟩ none 0 0 (some ⟨w5.heap.size,0,none⟩) 2 2) rfl ?_;try simp only[zn]
  refine zr 10 rfl (fun K hK=>?_);try simp only[z1,z2,z3]
  refine mV b5 xZ.out.loc _ _ rfl rfl rfl WF ?_;refine hK.out _ _ ((setRow_other _ _ _ _ VS).trans hS) (fun hS=>?_);clear hK K;try simp only[zn]
  refine wpAnyH_done VT ?_ _;clear xZ HE;have HS:=zh hS;have HQ:=zh HLq.out;generalize World.setRow (w5.alloc (fT op n s m a1 n1 c1 a2 n2 c2 opc nc sc mc pc qc rc tc uc vc)) b5 #[.int .i64 sH,.int .i64 0,.string ⟨#[]⟩,.string ⟨#[]⟩,.slice none 0 0,.slice (some ⟨w5.heap.size,0,none⟩) 2 2]=w6 at *;clear hS;obtain⟨⟨k0,k1,k2⟩,j0,j1,j2⟩:=bx3 HS.out;go_wp2_with fail;go_roundw
  case rel=>
   obtain⟨F',uJ⟩:∃F',F=F'+1:=⟨F-1,by have:=HB.out.1;have:=BQ;omega⟩;subst uJ;exact⟨jb,F',wK,_,sH,0,⟨#[]⟩,⟨#[]⟩,none,0,0,some ⟨w5.heap.size,0,none⟩,2,2,rfl,VS,zG,D9,zh ⟨by have:=HB.out;omega,by have:=HB.out;omega⟩⟩
  case measure=>
   have h1:=zG.out.at_.pos;have h2:=zG.out.at_.lt;rw[h1,HQ.out];omega
 rw[if_pos VT];try simp only[z1,z2,z3]
 go_simp;refine(HE.out (wK+1) (q+1) w4.drew (NE.out.later (aE _)) VS VS).mono ?_;rintro e w5 (⟨x5,rP,rfl,qS⟩|⟨xb,jb,rP,⟨⟨opc,nc,sc,mc,pc,qc,rc,tc,uc,vc,rfl,C2⟩,tG,FK⟩,qS⟩)
 ·go_wp2_with fail;exact⟨rfl,Ran.bad' (wR.out.trans (PR.bnd_bad rP)) (wG.out.off.trans ((Ba (aE _)).trans qS))⟩
 have uO:=zh ((wG.out.below (aE _)).next qS tG);have RM:=zh C2;have D9:=zh (wR.out.trans (PR.bnd_ok rP));have yS:w4.heap.size<=w5.heap.size:=qS.size;have P5:=qS.heap (show g≠p.pb from VS) hS;clear tG qS C2 rP;refine hK.out _ _ (P5) (fun hS=>?_);clear hK K;try simp only[zn]
 refine zr 2 rfl (fun K hK=>?_);try simp only[z1,z2,z3]
 refine xp_load b5 uO.out.loc _ rfl rfl ?_;refine hK.out _ _ (hS) (fun hS=>?_);clear hK K;try simp only[zn]
 have xZ:=zh (uO.out.below (aC w5 (fT op n s m a1 n1 c1 a2 n2 c2 opc nc sc mc pc qc rc tc uc vc)));have zG:=zh (xZ.out.put HW.out (y:=.mk sH 0 noB noB [] [x,xb]) (y0:=.int .i64 sH) (y1:=.int .i64 0) (y2:=.string ⟨#[]⟩) (y3:=.string ⟨#[]⟩) (y4:=.slice none 0 0) (y5:=.slice (some ⟨w5.heap.size,0,none⟩) 2 2) V2);refine zr 8 rfl (fun K hK=>?_);try simp only[z1,z2,z3]
 refine xp_slice2 _ _ rfl rfl rfl ?_;refine hK.out _ _ (aD (aC w5 _) hS) (fun hS=>?_);clear hK K;refine zq 9 (bW sH 0 ⟨#[]⟩ ⟨#[]⟩ none 0 0 (some ⟨w5.heap.size,0,none⟩) 2 2) rfl ?_;try simp only[zn]
 refine zr 10 rfl (fun K hK=>?_);try simp only[z1,z2,z3]
 refine mV b5 xZ.out.loc _ _ rfl rfl rfl WF ?_;refine hK.out _ _ ((setRow_other _ _ _ _ VS).trans hS) (fun hS=>?_);clear hK K;try simp only[zn]
 refine wpAnyH_done VT ?_ _;clear xZ HE;have HS:=zh hS;have HQ:=zh HLq.out;generalize World.setRow (w5.alloc (fT op n s m a1 n1 c1 a2 n2 c2 opc nc sc mc pc qc rc tc uc vc)) b5 #[.int .i64 sH,.int .i64 0,.string ⟨#[]⟩,.string ⟨#[]⟩,.slice none 0 0,.slice (some ⟨w5.heap.size,0,none⟩) 2 2]=w6 at *;clear hS;obtain⟨⟨k0,k1,k2⟩,j0,j1,j2⟩:=bx3 HS.out;go_wp2_with fail;go_roundw
 case rel=>
  obtain⟨F',uJ⟩:∃F',F=F'+1:=⟨F-1,by have:=HB.out.1;have:=BQ;omega⟩;subst uJ;exact⟨jb,F',wK,_,sH,0,⟨#[]⟩,⟨#[]⟩,none,0,0,some ⟨w5.heap.size,0,none⟩,2,2,rfl,VS,zG,D9,zh ⟨by have:=HB.out;omega,by have:=HB.out;omega⟩⟩
 case measure=>
  have h1:=zG.out.at_.pos;have h2:=zG.out.at_.lt
  rw[h1,HQ.out];omega):p:=h
theorem R4{p:Prop}(h:p:=by
 refine hK.out _ _ trivial (fun hS=>?_);clear hK K;try simp only[zn]
 refine zr 3 rfl (fun K hK=>?_);try simp only[z1,z2,z3]
 refine xp_slice1 _ rfl rfl ?_;refine hK.out _ _ trivial (fun hS=>?_);clear hK K;try simp only[zn]
 have xZ:=zh (wG.out.below (aC w4 (aH op n s m a1 n1 c1 a2 n2 c2)));have yE:=zh (xZ.out.put HW.out (y:=.mk 14 0 ns noB [] [x]) (y0:=.int .i64 14) (y1:=.int .i64 0) (y2:=.string ns) (y3:=.string ⟨#[]⟩) (y4:=.slice none 0 0) (y5:=.slice (some ⟨w4.heap.size,0,none⟩) 1 1) (by rw[aN];exact⟨_,_,rfl,tT,VU,aO.nil _ _ _ _,(aO.of_block (N:=fun b=>w.heap.size<b/\b≠b5) (css:=[[.int .i64 op,.int .i64 n,.string s,.string m,.slice a1 n1 c1,.slice a2 n2 c2]]) (bY w4 _) YV rfl VY (fun i y c hy hc=>by match i,hy,hc with|0,hy,hc=>(cases hy;cases hc;exact aG _ _ _ _ _ _ (aK.later (aC w4 _)) wG.out.enc)) rfl VU:aO 6 aU (fun b=>w.heap.size<b/\b≠b5) (w4.alloc (aH op n s m a1 n1 c1 a2 n2 c2)) (.slice (some ⟨w4.heap.size,0,none⟩) 1 1) [x])⟩));refine zq 4 (bW 14 0 ns ⟨#[]⟩ none 0 0 (some ⟨w4.heap.size,0,none⟩) 1 1) rfl ?_;try simp only[zn]
 refine zr 5 rfl (fun K hK=>?_);try simp only[z1,z2,z3]
 refine mV b5 xZ.out.loc _ _ rfl rfl rfl WF ?_;refine hK.out _ _ trivial (fun hS=>?_);clear hK K;try simp only[zn]
 refine wpAnyH_done VT ?_ _;clear xZ hS HE;have wR:=zh (uX.out.trans (congrArg (fun z=>PR.bnd z _) (PR.bnd_ok tF.out)));have KF:=zh (fQ tF.out);have HQ:=zh HL.out.at_.pos;clear tF qO uX E7;generalize World.setRow (w4.alloc (aH op n s m a1 n1 c1 a2 n2 c2)) b5 #[.int .i64 14,.int .i64 0,.string ns,.string ⟨#[]⟩,.slice none 0 0,.slice (some ⟨w4.heap.size,0,none⟩) 1 1]=w5 at *;go_roundw
 case rel=>
  obtain⟨F',uJ⟩:∃F',F=F'+1:=⟨F-1,XB⟩;subst uJ;refine⟨_,_,_,_,_,_,_,_,_,_,_,⟨j4,F',_,14,0,ns,⟨#[]⟩,none,0,0,some ⟨w4.heap.size,0,none⟩,1,1,yE,zh (wR.out.trans (congrArg (fun z=>PR.bnd z _) (if_pos pT).symm)),zh ⟨YB,YB⟩⟩,rfl⟩
 case measure=>
  have h1:=yE.out.at_.pos;have h2:=yE.out.at_.lt;have h3:=KF.out
  rw[h1,HQ.out];omega):p:=h
theorem SG{p:Prop}(h:p:=by
 obtain⟨⟨y0,y1,y2,y3,y4,y5⟩,h0,h1,h2,h3,h4,h5⟩:=bx6 HI.out.ex.loc;obtain⟨⟨r0,r1,r2,r3,r4,r5⟩,g0,g1,g2,g3,g4,g5⟩:=bx6 HI.out.ex.res;go_wp2_with fail;have hE:=gJ HW.out HI.out.ex.off HI.out.ex.at_ HI.out.ex.enc (fun b hb=>hb.1);unfold fP at hE;refine bodyPost_ret (v:=bW op n s m a1 n1 c1 a2 n2 c2) (by simp[results,Tryz.results48,go_sem,r0,r1,r2,r3,r4,r5]) rfl ?_
 exact Ran.good HR.out ⟨⟨op,n,s,m,a1,n1,c1,a2,n2,c2,rfl,hE.1⟩,hE.2.1,HJ.out⟩ hE.2.2):p:=h
theorem VC{p:Prop}(h:p:=by
 go_wp2_with fail
 exact⟨rfl,Ran.bad' (uX.out.trans (PR.bnd_bad (PR.bnd_bad rC))) ((yL.out.below (aE _)).off.trans qH)⟩):p:=h
theorem exp_step(p:Prs)(f:Nat)(hE:gF p f)(hP:PrimOk p f)(form i:Nat)(w:World)(h:p.At w i)(hf:form<=9)(tD:p.l.length<f+1+i):Calls Tryz.prog 48 #[.pointer (some ⟨p.pb,0,none⟩),.int .i64 (form:Int)] w
  (Ran p.S w (bS p.l (f+1) form i) fun x j e w'=>oF w.heap.size x e w'/\p.At w' j/\i<=j):=by
 have HE:=zh hE;have HW:=zh h;have rD:=h.len;have uS:=h.blt;have pP:w.heap.size≠p.pb:=VS;have HR:Hid (bS p.l (f+1) form i=(cK p.l (bS p.l f) form i).bnd fun r j=>(if 7<=r.2 then lX p.l (p.l.length+1) r.1 j else .ok (r.1,j)).bnd fun e k=>nM p.l (bS p.l f) form (p.l.length+1) r.2 e k):=zh (by rw[bS]);have K6:=zh (prefix_any p f hE hP (w.alloc (.cells bG 35)) form i (h.later (aC _ _)) hf VS);have zJ:(w.alloc (.cells bG 35)).heap.size=w.heap.size+1:=VY;clear h hE hP;go_enter Tryz.func48,Tryz.ntmps48;go_wp2_with(go_at_call 134;refine K6.out.mono ?_;rintro e w2 (⟨x2,qD,rfl,pY⟩|⟨r,j2,qD,⟨⟨op,n,s,m,a1,n1,c1,a2,n2,c2,rfl,hex⟩,rE,DP⟩,pY⟩))
 ·exact⟨rfl,Ran.bad' (HR.out.trans (PR.bnd_bad qD)) ((Ba (aC _ _)).trans pY)⟩
 have rY:=pY.size;have HL0:Hid (ExL p w w2.heap.size r.1 [.int .i64 op,.int .i64 n,.string s,.string m,.slice a1 n1 c1,.slice a2 n2 c2] j2 (w2.alloc (aH op n s m a1 n1 c1 a2 n2 c2))):=zh ⟨((Ba (aC _ _)).trans pY).trans (Ba (aC _ _)),aD (aC _ _) (pY.heap pP (bY w _)),bY w2 _,aG _ _ _ _ _ _ (fun b hb hl=>⟨⟨by have hb:(w.alloc (.cells bG 35)).heap.size<=b:=hb;omega,VS⟩,fun o u hu=>aB (aC _ _) hu⟩) hex,VS,uS,rE.later (aC _ _)⟩;have QL:=zh (HR.out.trans (PR.bnd_ok qD));have hr8:=prefix_own qD;clear hex rE pY qD K6 HR;obtain⟨x0,own⟩:=r;simp only at HL0 QL hr8;have hb5:w.heap.size<w2.heap.size:=VS;generalize w2.heap.size=b5 at *;go_loopw [16] (fun sl wr=>∃(q F:Nat)(x:Xp)(op n:Int)(s m:bA)(a1:Option Addr)(n1 c1:Nat)(a2:Option Addr)(n2 c2:Nat),Hid (ExL p w b5 x [.int .i64 op,.int .i64 n,.string s,.string m,.slice a1 n1 c1,.slice a2 n2 c2] q wr)/\Hid (bS p.l (f+1) form i=(if 7<=own then lX p.l (F+1) x q else .ok (x,q)).bnd fun e k=>nM p.l (bS p.l f) form (p.l.length+1) own e k)/\Hid (p.l.length<=F+q/\i<=q)) (fun _ wr=>p.l.length-posOf wr p.pb)
 case atStart=>exact⟨j2,p.l.length,x0,op,n,s,m,a1,n1,c1,a2,n2,c2,HL0,QL,zh ⟨VS,DP⟩⟩
 case round=>
  obtain⟨q,F,x,op,n,s,m,a1,n1,c1,a2,n2,c2,HL,qO,HB⟩:=hrel;rename World=>wr
  by_cases pT:7<=own
  focus
   have wH:¬(own:Int)<7:=VS;have hown2:(7:Int)<=(own:Int):=VS;rcases Bool.eq_false_or_eq_true (isP p.l q kG) with hqd|hqd
   focus
    ·skip;have hl:=isP_lt HL.out.at_ hqd;have uX:=zh (qO.out.trans (congrArg (fun z=>PR.bnd z _) ((if_pos pT).trans (dots_yes hqd))));go_wp2_with(go_at_call 120;refine(fK p wr q kG HL.out.at_ hqd).mono ?_;rintro e w3 ⟨rfl,sV,qP⟩);have yL:=zh (HL.out.next qP sV);clear sV qP;refine wp_region_held_drew (S:=(fun _=>True)) VT trivial fun hS=>?_;refine zq 0 (.pointer (some ⟨p.pb,0,none⟩)) rfl ?_;(try simp only[zn]);refine wpAnyH_ready (rs:=[1,2]) VT VY ?_;refine AllReadyH.cons rfl (fun K hK=>?_) (AllReadyH.cons rfl (fun K hK=>?_) AllReadyH.nil)
     ·rw[if_pos VT];(try simp only[z1,z2,z3]);go_simp;refine(fH p w3.drew (q+1) (yL.out.below (aE _)).at_).mono ?_;rintro e w4 (⟨x4,rC,rfl,qH⟩|⟨ns,j4,rC,⟨rfl,sQ,tT⟩,qH⟩)
      ·exact VC
      have wG:=zh ((yL.out.below (aE _)).next qH sQ);have tF:=zh rC;have E7:=zh qH;clear sQ qH rC;have wP:b5<w4.heap.size:=(Array.getElem?_eq_some_iff.1 wG.out.loc).1;have hwz:=wG.out.b5;refine hK.out _ _ trivial (fun hS=>?_);clear hK K;(try simp only[zn]);refine zr 2 rfl (fun K hK=>?_);(try simp only[z1,z2,z3]);refine xp_load b5 wG.out.loc _ rfl rfl ?_;exact R4
     rw[if_pos VT];(try simp only[z1,z2,z3]);refine xp_load b5 (yL.out.below (aE _)).loc _ rfl rfl ?_;refine hK.out _ _ trivial (fun hS=>?_);clear hK K;(try simp only[zn]);refine wpAnyH_ready (rs:=[1,3]) VT VY ?_;refine AllReadyH.cons rfl (fun K hK=>?_) (AllReadyH.cons rfl (fun K hK=>?_) AllReadyH.nil)
     ·rw[if_pos VT];(try simp only[z1,z2,z3]);go_simp;refine(fH p w3.drew (q+1) (yL.out.below (aE _)).at_).mono ?_;rintro e w4 (⟨x4,rC,rfl,qH⟩|⟨ns,j4,rC,⟨rfl,sQ,tT⟩,qH⟩)
      ·exact VC
      have wG:=zh ((yL.out.below (aE _)).next qH sQ);have tF:=zh rC;have E7:=zh qH;clear sQ qH rC;have wP:b5<w4.heap.size:=(Array.getElem?_eq_some_iff.1 wG.out.loc).1;have hwz:=wG.out.b5;exact R4
     rw[if_pos VT];(try simp only[z1,z2,z3]);refine xp_slice1 _ rfl rfl ?_;refine hK.out _ _ trivial (fun hS=>?_);clear hK K;(try simp only[zn]);refine zr 1 rfl (fun K hK=>?_);(try simp only[z1,z2,z3]);go_simp;refine(fH p (w3.drew.alloc (aH op n s m a1 n1 c1 a2 n2 c2)) (q+1) (yL.out.below (aA (aE w3) (aC w3.drew (aH op n s m a1 n1 c1 a2 n2 c2)))).at_).mono ?_;rintro e w4 (⟨x4,rC,rfl,qH⟩|⟨ns,j4,rC,⟨rfl,sQ,tT⟩,qH⟩)
     ·go_wp2_with fail;exact⟨rfl,Ran.bad' (uX.out.trans (PR.bnd_bad (PR.bnd_bad rC))) ((yL.out.below (aA (aE w3) (aC w3.drew (aH op n s m a1 n1 c1 a2 n2 c2)))).off.trans qH)⟩
     have wG:=zh ((yL.out.below (aA (aE w3) (aC w3.drew (aH op n s m a1 n1 c1 a2 n2 c2)))).next qH sQ);have tF:=zh rC;have E7:=zh qH;clear sQ qH rC;have hrow4:=E7.out.heap (show w3.drew.heap.size≠p.pb from fun e=>by have:=yL.out.at_.blt;have e:w3.heap.size=p.pb:=e;omega) (bY w3.drew (aH op n s m a1 n1 c1 a2 n2 c2));have hdz:w3.drew.heap.size=w3.heap.size:=rfl;have wP:b5<w3.heap.size:=(Array.getElem?_eq_some_iff.1 yL.out.loc).1;have hwz:=wG.out.b5;refine hK.out _ _ trivial (fun hS=>?_);clear hK K;(try simp only[zn]);have xZ:=zh (wG.out);have yE:=zh (xZ.out.put HW.out (y:=.mk 14 0 ns noB [] [x]) (y0:=.int .i64 14) (y1:=.int .i64 0) (y2:=.string ns) (y3:=.string ⟨#[]⟩) (y4:=.slice none 0 0) (y5:=.slice (some ⟨w3.drew.heap.size,0,none⟩) 1 1) (by rw[aN];exact⟨_,_,rfl,tT,VU,aO.nil _ _ _ _,(aO.of_block (N:=fun b=>w.heap.size<b/\b≠b5) (css:=[[.int .i64 op,.int .i64 n,.string s,.string m,.slice a1 n1 c1,.slice a2 n2 c2]]) (hrow4) YV rfl VY (fun i y c hy hc=>by match i,hy,hc with|0,hy,hc=>(cases hy;cases hc;exact wG.out.enc)) rfl VU:aO 6 aU (fun b=>w.heap.size<b/\b≠b5) w4 (.slice (some ⟨w3.drew.heap.size,0,none⟩) 1 1) [x])⟩));refine zq 4 (bW 14 0 ns ⟨#[]⟩ none 0 0 (some ⟨w3.drew.heap.size,0,none⟩) 1 1) rfl ?_;(try simp only[zn]);refine zr 5 rfl (fun K hK=>?_);(try simp only[z1,z2,z3]);refine mV b5 xZ.out.loc _ _ rfl rfl rfl WF ?_;refine hK.out _ _ trivial (fun hS=>?_);clear hK K;(try simp only[zn]);refine wpAnyH_done VT ?_ _;clear xZ hS HE;have wR:=zh (uX.out.trans (congrArg (fun z=>PR.bnd z _) (PR.bnd_ok tF.out)));have KF:=zh (fQ tF.out);have HQ:=zh HL.out.at_.pos;clear tF qO uX E7;generalize World.setRow w4 b5 #[.int .i64 14,.int .i64 0,.string ns,.string ⟨#[]⟩,.slice none 0 0,.slice (some ⟨w3.drew.heap.size,0,none⟩) 1 1]=w5 at *;go_roundw
     case rel=>
      obtain⟨F',uJ⟩:∃F',F=F'+1:=⟨F-1,XB⟩;subst uJ;refine⟨_,_,_,_,_,_,_,_,_,_,_,⟨j4,F',_,14,0,ns,⟨#[]⟩,none,0,0,some ⟨w3.drew.heap.size,0,none⟩,1,1,yE,zh (wR.out.trans (congrArg (fun z=>PR.bnd z _) (if_pos pT).symm)),zh ⟨YB,YB⟩⟩,rfl⟩
     case measure=>
      have h1:=yE.out.at_.pos;have h2:=yE.out.at_.lt;have h3:=KF.out;rw[h1,HQ.out];omega
   have QK:=zh (qO.out.trans (congrArg (fun z=>PR.bnd z _) ((if_pos pT).trans (dots_no hqd))));go_wp2_with(go_at_call 120;refine(bH p wr q kG HL.out.at_ hqd).mono ?_;rintro e w3 ⟨rfl,sV,qP⟩;have HLE:=zh (HL.out.next qP sV);clear sV qP)
  rotate_left
  focus
   have wH:(own:Int)<7:=VS;have QK:=zh (qO.out.trans (congrArg (fun z=>PR.bnd z _) (if_neg pT)));have HLE:=HL;go_wp2_with fail
  all_goals
   have HSpO:Hid (bS p.l (f+1) form i=nM p.l (bS p.l f) form (p.l.length+1) own x q):=zh QK.out;clear HL qO QK HL0 QL;(go_loopw [6] (fun sl wr=>∃(q F own:Nat)(x:Xp)(op n:Int)(s m:bA)(a1:Option Addr)(n1 c1:Nat)(a2:Option Addr)(n2 c2:Nat),sl=.int .i64 (own:Int)/\own<=8/\Hid (ExL p w b5 x [.int .i64 op,.int .i64 n,.string s,.string m,.slice a1 n1 c1,.slice a2 n2 c2] q wr)/\Hid (bS p.l (f+1) form i=nM p.l (bS p.l f) form (F+1) own x q)/\Hid (p.l.length<=F+q/\i<=q)) (fun _ wr=>p.l.length-posOf wr p.pb));case atStart=>exact⟨q,p.l.length,own,x,op,n,s,m,a1,n1,c1,a2,n2,c2,rfl,hr8,HLE,HSpO,zh ⟨VS,HB.out.2⟩⟩
   case round=>
    clear HLE HSpO HB pT wH hr8;obtain⟨q,F,own,x,op,n,s,m,a1,n1,c1,a2,n2,c2,rfl,hr8,HL,qO,HB⟩:=hrel;(rename World=>wr);have HI0:=zh HL.out.search;have HLq:=zh HL.out.at_.pos;have hgb:=(Array.getElem?_eq_some_iff.1 HL.out.loc).1;have hb5w:=HL.out.b5;go_wp2_with(go_at_call 135;refine(operators_any _).mono ?_;rintro e w1 ⟨rfl,rfl⟩);(go_loopw [29] (fun sl w2=>∃k:Nat,k<=7/\sl=.int .i64 (k:Int)/\Hid (OpI p w b5 x [.int .i64 op,.int .i64 n,.string s,.string m,.slice a1 n1 c1,.slice a2 n2 c2] q wr.heap.size (opSeen p.l q k) w2)) (fun sl _=>7-(intOf sl).toNat));case atStart=>exact⟨0,VS,rfl,HI0⟩
    case round=>
     obtain⟨k,hk7,rfl,HI⟩:=hrel;(rename World=>w2);by_cases pS:k<7
     ··skip;obtain⟨⟨t,rW,fm⟩,hk⟩:∃o,eP[k]? =some o:=⟨_,List.getElem?_eq_getElem (show k<eP.length from pS)⟩;obtain⟨hc0,EV,tJ⟩:=opers_at hk;have c0:=(bx HI.out.oc (k*3) (by simpa using hc0)).1;have c1:=(bx HI.out.oc (k*3+1) (by simpa using EV)).1;have c2:=(bx HI.out.oc (k*3+2) (by simpa using tJ)).1;clear hc0 EV tJ;have RD:=zh (HI.out.below (aC w2 (oV t rW (fm:Int))));have HK:=zh hk
       cases hqt:isP p.l q t with
       |true=>
        go_wp2_with(go_at_call 112;refine(fU p _ q t RD.out.ex.at_).mono ?_;rintro e w3 ⟨rfl,pR⟩;rw[hqt];have RC:=zh (RD.out.below pR);obtain⟨⟨d0,d1,d2⟩,-⟩:=bx3 (aD pR (bY w2 (oV t rW (fm:Int))));obtain⟨⟨k0,k1,k2⟩,j0,j1,j2⟩:=bx3 RC.out.xc);have RB:=zh (RC.out.put HW.out (t:=t) (op:=rW) (fm:=fm));clear d0 d1 d2 k0 k1 k2 j0 j1 j2;go_roundw;(case rel=>exact⟨k+1,VS,WH,by rw[opSeen_yes HK.out hqt];exact RB⟩);case measure=>simp[intOf];omega
       |false=>
        go_wp2_with(go_at_call 112;refine(fU p _ q t RD.out.ex.at_).mono ?_;rintro e w3 ⟨rfl,pR⟩;rw[hqt];have RC:=zh (RD.out.below pR));go_roundw;(case rel=>exact⟨k+1,VS,WH,by rw[opSeen_no HK.out hqt];exact RC⟩);case measure=>simp[intOf];omega
     have hk:k=7:=VS;subst hk
     cases vT:lA p.l q with
     |none=>
      (have BO:opSeen p.l q 7=(⟨#[]⟩,0,0):=by rw[opSeen_all,vT];rfl);rw[BO] at HI;have HR:=zh (qO.out.trans (ops_none vT));have HJ:=zh (show i<=q from HB.out.2);clear BO vT qO HB HI0 HLq HE;obtain⟨⟨k0,k1,k2⟩,j0,j1,j2⟩:=bx3 HI.out.xc;exact SG
     |some o=>
      obtain⟨t2,sH,wK⟩:=o;(have BO:opSeen p.l q 7=(t2,sH,wK):=by rw[opSeen_all,vT];rfl);rw[BO] at HI;obtain⟨htn,hfm6,htq⟩:=operAt_ok vT;(have hte:(t2.toList==[])=false:=by rw[beq_eq_false_iff_ne];intro e;exact htn (lR e));have HJ:=zh (show i<=q from HB.out.2);clear BO HI0;obtain⟨⟨k0,k1,k2⟩,j0,j1,j2⟩:=bx3 HI.out.xc;by_cases e1:wK<form
      ·have HR:=zh (qO.out.trans (ops_stop vT (.inl e1)));clear vT qO HB HE;have e1':(wK:Int)<(form:Int):=VS;exact SG
      have e1':¬(wK:Int)<(form:Int):=VS;have e1'':(form:Int)<=(wK:Int):=VS;by_cases e2:own<wK
      ·have HR:=zh (qO.out.trans (ops_stop vT (.inr (.inl e2))));clear vT qO HB HE;have e2':(own:Int)<(wK:Int):=VS;exact SG
      have e2':¬(own:Int)<(wK:Int):=VS;have e2'':(wK:Int)<=(own:Int):=VS;by_cases e3:own=4
      ·(have e3':((own:Int)==4)=true:=by rw[beq_iff_eq];omega);by_cases e4:wK=4
       ·(have e4':((wK:Int)==4)=true:=by rw[beq_iff_eq];omega);have HR:=zh (qO.out.trans (ops_stop vT (.inr (.inr ⟨e3,e4⟩))));clear vT qO HB HE e3 e4;exact SG
       have e4':((wK:Int)==4)=false:=V7;have wR:=zh (qO.out.trans (ops_on vT (fun h=>by rcases h with h|h|h<;>omega)));clear e3 e4;exact RW
      have e3':((own:Int)==4)=false:=V7;have wR:=zh (qO.out.trans (ops_on vT (fun h=>by rcases h with h|h|h<;>omega)));exact RW
end Go.Proofs.YtiionicikdnnpaaGreatDoor
namespace Go.Proofs.YtiionicikdnnpaaGreatDoor
theorem exp_ok(p:Prs):∀f,gF p f
 |0=>fun form i w h hf tD=>by have:=h.lt;omega
 |f+1=>fun form i w h hf tD=>exp_step p f (exp_ok p f) (primary_ok p f (exp_ok p f) (record_any p f (exp_ok p f))) form i w h hf tD
theorem exp_all(p:Prs):ExpAll p:=ExpAll.of (exp_ok p)
end Go.Proofs.YtiionicikdnnpaaGreatDoor
namespace Go.Proofs.YtiionicikdnnpaaGreatDoor
open Go.RowKit
def encA{α:Type}(o:Option Nat)(enc:(Nat->Prop)->World->α->List Value->Prop)(N:Nat->Prop)(w:World)(x:α)(cs:List Value):Prop:=enc (fun b=>N b/\o≠some b) w x cs
theorem encA_ok{α:Type}(o:Option Nat){enc:(Nat->Prop)->World->α->List Value->Prop}(he:eF enc):eF (encA o enc):=fun _ _ _ _ _ _ hm h=>he _ _ _ _ _ _ (fun b hb hl=>⟨⟨(hm b hb.1 hl).1,hb.2⟩,(hm b hb.1 hl).2⟩) h
structure Pair {α β:Type} (k1:Nat) (T1:TypeId) (enc1:(Nat->Prop)->World->α->List Value->Prop) (k2:Nat) (T2:TypeId) (enc2:(Nat->Prop)->World->β->List Value->Prop) (B:Nat) (l1:List α) (c1:List (List Value)) (v1:Value) (l2:List β) (c2:List (List Value)) (v2:Value) (w:World):Prop where
 a:Gro k1 T1 (encA v2.ownBlock enc1) B l1 c1 v1 w
 b:Gro k2 T2 (encA v1.ownBlock enc2) B l2 c2 v2 w
 d:∀b,v1.ownBlock=some b->v2.ownBlock≠some b
section
variable {α β:Type} {k1 k2:Nat} {T1 T2:TypeId} {enc1:(Nat->Prop)->World->α->List Value->Prop} {enc2:(Nat->Prop)->World->β->List Value->Prop} {B:Nat} {l1:List α} {l2:List β} {c1 c2:List (List Value)} {v1 v2:Value} {w w' w9 rH:World}
theorem Pair.swap(h:Pair k1 T1 enc1 k2 T2 enc2 B l1 c1 v1 l2 c2 v2 w):Pair k2 T2 enc2 k1 T1 enc1 B l2 c2 v2 l1 c1 v1 w:=⟨h.b,h.a,fun b hb e=>h.d b e hb⟩
theorem Pair.stays(qF:eF enc1)(rL:eF enc2)(h:Pair k1 T1 enc1 k2 T2 enc2 B l1 c1 v1 l2 c2 v2 w)(hs:cV B w w'):Pair k1 T1 enc1 k2 T2 enc2 B l1 c1 v1 l2 c2 v2 w':=⟨h.a.stays (encA_ok _ qF) hs,h.b.stays (encA_ok _ rL) hs,h.d⟩
theorem Pair.add{x:α}{news:List Value}{g cap n1:Nat}(qF:eF enc1)(rL:eF enc2)(h:Pair k1 T1 enc1 k2 T2 enc2 B l1 c1 v1 l2 c2 v2 w9)(hx:encA v2.ownBlock enc1 (nE B v1) w9 x news)(hk:news.length=k1)
  (pT:rH.ownsRow B T1 k1 (.slice (some ⟨g,0,none⟩) n1 cap) n1 (c1.flatten++news)) (hn:n1=l1.length+1) (pL:w9.grownBy rH v1.ownBlock) (qW:v1.ownBlock=some g\/g=w9.heap.size):
  Pair k1 T1 enc1 k2 T2 enc2 B (l1++[x]) (c1++[news]) (.slice (some ⟨g,0,none⟩) n1 cap) l2 c2 v2 rH:=by
 subst hn;have IZ:=h.b.lt
 have hg:∀b,b<w9.heap.size->v1.ownBlock≠some b->b≠g:=fun b hb hn e=>by
  subst e;rcases qW with h1|h1
  ·exact hn h1
  omega
 refine⟨h.a.added (encA_ok _ qF) hx hk pT pL qW,?_,fun b hb e=>?_⟩
 ·refine h.b.change pL.size (fun b hb=>pL.block b (IZ b hb).2 fun e=>h.d b e.symm hb) (fun y c hy=>?_);refine rL _ _ _ _ _ _ (fun b hb hl=>⟨⟨hb.1,fun e=>?_⟩,fun o u hu=>pL.cell hu (fun e=>hb.2 e.symm)⟩) hy;have e:g=b:=YG;exact hg b hl hb.2 e.symm
 have pM:g=b:=by simpa[Value.ownBlock] using hb
 subst pM;rcases qW with h1|h1
 ·exact h.d g h1 e
 have:=(IZ g e).2;omega
theorem Pair.row(qF:eF enc1)(h:Pair k1 T1 enc1 k2 T2 enc2 B l1 c1 v1 l2 c2 v2 w):aO k1 enc1 (bP B) w v1 l1:=by
 obtain⟨a,c,h1,h2,h3,h4⟩:=h.a.row (encA_ok _ qF);refine⟨a,c,h1,h2,h3,fun pP=>?_⟩;obtain⟨b,o,e1,e2,e3⟩:=h4 pP;refine⟨b,o,e1,e2,fun i x hx=>?_⟩;obtain⟨cs,f1,f2,f3⟩:=e3 i x hx;exact⟨cs,qF.wide f1 (fun b hb _=>hb.1),f2,f3⟩
end
def eV(B C:Nat):Nat->Prop:=fun b=>B<=b/\b<C
theorem aO.betw{α:Type}{k:Nat}{enc:(Nat->Prop)->World->α->List Value->Prop}(he:eF enc)(hk:0<k){B:Nat}{w:World}{v:Value}{l:List α}(h:aO k enc (bP B) w v l):aO k enc (eV B w.heap.size) w v l:=h.moves he (fun _ hb hl=>⟨⟨hb,hl⟩,fun _ _ h=>h⟩) hk
section
variable {T:TypeId} {zero cells:Array Value} {p:Prs} {O S:Nat->Prop} {W w8 rH:World} {b5 B q i0:Nat} {E:World->Prop}
theorem Mk.above(h:Mk T zero p O S W b5 cells E q w8)(hW:p.At W i0)(hb:b5<B)(ho:Off (fun b=>B<=b) w8 rH)(hE:dZ (fun b=>B<=b) E):Mk T zero p O S W b5 cells E q rH:=by
 have h1:=h.hb5;exact⟨Off.fresh ((h.off.or _).trans (ho.mono fun b hb=>.inr Y6)) (Nat.le_refl _),ho.heap VS h.res,ho.heap VS h.loc,hW.above h.at_ (ho.mono fun b hb=>Y6),hE _ _ ho h.enc,h.st,h1,h.sO,h.s5,h.sR,h.sP⟩
theorem Mk.drew(h:Mk T zero p O S W b5 cells E q w8):Mk T zero p O S W b5 cells E q w8.drew:=h.below (aE _)
theorem Mk.wide{S':Nat->Prop}(h:Mk T zero p O S W b5 cells (fun _=>True) q w8)(h1:∀b,S' b->O b\/W.heap.size<b)(h2:¬S' b5)(h3:¬S' W.heap.size)(h4:S' p.pb):Mk T zero p O S' W b5 cells (fun _=>True) q w8:=
 ⟨h.off,h.res,h.loc,h.at_,trivial,dZ.true,h.hb5,h1,h2,h3,h4⟩
end
def encM(N:Nat->Prop)(w:World)(m:Mdl)(cs:List Value):Prop:=∃vu vv vi vf vo vw vb,cs=[.string m.name,vu,vv,vi,vf,.bool m.moves,vo,vw,vb]/\m.name.size<=8000/\
 aO 1 eT N w vu m.uses/\aO 3 eH N w vv m.vars/\aO 6 aU N w vi m.init/\aO 12 hO N w vf m.funcs/\aO 3 eH N w vo m.old/\aO 6 aU N w vw m.forward/\aO 6 aU N w vb m.back
theorem jL:eF encM:=fun _ _ _ _ f cs hm h=>by
 obtain⟨vu,vv,vi,vf,vo,vw,vb,h1,h2,h3,h4,h5,h6,h7,h8,h9⟩:=h;exact⟨vu,vv,vi,vf,vo,vw,vb,h1,h2,h3.moves aT hm VU,h4.moves aS hm VU,h5.moves aG hm VU,h6.moves bD hm VU,h7.moves aS hm VU,h8.moves aG hm VU,h9.moves aG hm VU⟩
theorem bx9{w:World}{b:Nat}{x0 x1 x2 x3 x4 x5 x6 x7 x8:Value}{t:TypeId}(h:w.heap[b]? =some (.cells #[x0,x1,x2,x3,x4,x5,x6,x7,x8] t)):
  (w.cell? ⟨b,0,none⟩=some x0/\w.cell? ⟨b,1,none⟩=some x1/\w.cell? ⟨b,2,none⟩=some x2/\w.cell? ⟨b,3,none⟩=some x3/\w.cell? ⟨b,4,none⟩=some x4/\w.cell? ⟨b,5,none⟩=some x5/\w.cell? ⟨b,6,none⟩=some x6/\w.cell? ⟨b,7,none⟩=some x7/\w.cell? ⟨b,8,none⟩=some x8)/\
  (w.frozen? ⟨b,0,none⟩=false/\w.frozen? ⟨b,1,none⟩=false/\w.frozen? ⟨b,2,none⟩=false/\w.frozen? ⟨b,3,none⟩=false/\w.frozen? ⟨b,4,none⟩=false/\w.frozen? ⟨b,5,none⟩=false/\w.frozen? ⟨b,6,none⟩=false/\w.frozen? ⟨b,7,none⟩=false/\w.frozen? ⟨b,8,none⟩=false):=
 ⟨⟨(bx h 0 rfl).1,(bx h 1 rfl).1,(bx h 2 rfl).1,(bx h 3 rfl).1,(bx h 4 rfl).1,(bx h 5 rfl).1,(bx h 6 rfl).1,(bx h 7 rfl).1,(bx h 8 rfl).1⟩,(bx h 0 (u:=x0) rfl).2,(bx h 1 (u:=x1) rfl).2,(bx h 2 (u:=x2) rfl).2,(bx h 3 (u:=x3) rfl).2,(bx h 4 (u:=x4) rfl).2,(bx h 5 (u:=x5) rfl).2,(bx h 6 (u:=x6) rfl).2,(bx h 7 (u:=x7) rfl).2,(bx h 8 (u:=x8) rfl).2⟩
abbrev cZ:Array Value:=#[.string ⟨#[]⟩,.slice none 0 0,.slice none 0 0,.slice none 0 0,.slice none 0 0,.bool false,.slice none 0 0,.slice none 0 0,.slice none 0 0]
def set9(w:World)(b:Nat)(x0 x1 x2 x3 x4 x5 x6 x7 x8:Value):World:=
 ((((((((w.setCell ⟨b,0,none⟩ x0).setCell ⟨b,1,none⟩ x1).setCell ⟨b,2,none⟩ x2).setCell ⟨b,3,none⟩ x3).setCell ⟨b,4,none⟩ x4).setCell ⟨b,5,none⟩ x5).setCell ⟨b,6,none⟩ x6).setCell ⟨b,7,none⟩ x7).setCell ⟨b,8,none⟩ x8
theorem oO(w:World)(b:Nat)(x0 x1 x2 x3 x4 x5 x6 x7 x8:Value):Off (fun k=>k=b) w (set9 w b x0 x1 x2 x3 x4 x5 x6 x7 x8):=by
 unfold set9;exact(Off.refl _ _).one.one.one.one.one.one.one.one.one
section
variable {l:List Tok} {F q:Nat}
theorem uses_stop{out:List bA}(h:isP l q kUse=false):iH l (F+1) out q=.ok (out,q):=by rw[iH,if_neg (by rw[h];simp)]
theorem uses_step{out:List bA}(h:isP l q kUse=true):iH l (F+1) out q=(gX l q out.length 12).bnd fun _ _=>(gH l (q+1) (fun s=>out.any fun x=>decide (x=s))).bnd fun s j=>(dN l j fD).bnd fun _ k=>iH l F (out++[s]) k:=by rw[iH,if_pos h]
theorem vars_stop{vs:List Fld}{es:List Xp}(h:isP l q kVar=false):iV l (F+1) vs es q=.ok ((vs,es),q):=by rw[iV,if_neg (by rw[h];simp)]
theorem vars_step{vs:List Fld}{es:List Xp}(h:isP l q kVar=true):iV l (F+1) vs es q=(gX l q vs.length 8).bnd fun _ _=>(gH l (q+1) (fun s=>vs.any fun x=>decide (x.1=s))).bnd fun s j=>(kD l j).bnd fun t j2=>(mF l j2 (decide (bL t<=4)) kEq).bnd fun _ j3=>(mC l j3 fD).bnd fun e k=>iV l F (vs++[(s,t)]) (es++[e]) k:=by rw[iV,if_pos h]
theorem funcs_stop{fs:List Fnc}(h:(isP l q nG||isP l q kFn)=false):gI l (F+1) fs q=.ok (fs,q):=by rw[gI,if_neg (by rw[h];simp)]
theorem funcs_step{fs:List Fnc}(h:(isP l q nG||isP l q kFn)=true):gI l (F+1) fs q=(gX l q fs.length 30).bnd fun _ _=>(mT l q (fun s=>fs.any fun x=>decide (x.name=s))).bnd fun x k=>gI l F (fs++[x]) k:=by rw[gI,if_pos h]
theorem any_pushS(l:List bA)(a:bA):(eK fun z=>decide (z=a)||l.any fun x=>decide (x=z))=eK fun s=>(l++[a]).any fun x=>decide (x=s):=by
 exact T5
theorem any_pushF(l:List Fnc)(f:Fnc):(eK fun z=>decide (z=f.name)||l.any fun x=>decide (x.name=z))=eK fun s=>(l++[f]).any fun x=>decide (x.name=s):=by
 refine congrArg eK (funext fun z=>?_);simp only[List.any_append,List.any_cons,List.any_nil,Bool.or_false];rw[Bool.or_comm];by_cases h:f.name=z
 ·subst h;rfl
 have h2:¬z=f.name:=fun e=>h e.symm;simp only[decide_eq_false h,decide_eq_false h2]
end
structure hY (w:World) (ka na:Nat) (fa:bA->Bool) (kb nb:Nat) (fb:bA->Bool) (kc nc:Nat) (fc:bA->Bool):Prop where
 a:bQ jC fG w ka na (eK fa)
 b:bQ jC fG w kb nb (eK fb)
 c:bQ jC fG w kc nc (eK fc)
section
variable {w w':World} {ka na kb nb kc nc na' nb' nc':Nat} {fa fb fc fa' fb' fc':bA->Bool} {S:Nat->Prop}
theorem hY.off(h:hY w ka na fa kb nb fb kc nc fc)(ho:Off S w w')(hS:¬S ka/\¬S kb/\¬S kc):hY w' ka na fa kb nb fb kc nc fc:=
 ⟨h.a.of_block (ho.block _ h.a.lt hS.1),h.b.of_block (ho.block _ h.b.lt hS.2.1),h.c.of_block (ho.block _ h.c.lt hS.2.2)⟩
theorem hY.later(h:hY w ka na fa kb nb fb kc nc fc)(hb:Below w.heap.size w w'):hY w' ka na fa kb nb fb kc nc fc:=⟨h.a.later hb,h.b.later hb,h.c.later hb⟩
theorem hY.putA(h:hY w ka na fa kb nb fb kc nc fc)(ho:Off S w w')(hS:¬S kb/\¬S kc)(hm:bQ jC fG w' ka na' (eK fa')):hY w' ka na' fa' kb nb fb kc nc fc:=⟨hm,h.b.of_block (ho.block _ h.b.lt hS.1),h.c.of_block (ho.block _ h.c.lt hS.2)⟩
theorem hY.putB(h:hY w ka na fa kb nb fb kc nc fc)(ho:Off S w w')(hS:¬S ka/\¬S kc)(hm:bQ jC fG w' kb nb' (eK fb')):hY w' ka na fa kb nb' fb' kc nc fc:=⟨h.a.of_block (ho.block _ h.a.lt hS.1),hm,h.c.of_block (ho.block _ h.c.lt hS.2)⟩
theorem hY.putC(h:hY w ka na fa kb nb fb kc nc fc)(ho:Off S w w')(hS:¬S ka/\¬S kb)(hm:bQ jC fG w' kc nc' (eK fc')):hY w' ka na fa kb nb fb kc nc' fc':=⟨h.a.of_block (ho.block _ h.a.lt hS.1),h.b.of_block (ho.block _ h.b.lt hS.2),hm⟩
end
theorem oZ{α:Type}{k:Nat}{T T0 Te:TypeId}{zero cells cells':Array Value}{p:Prs}{O S:Nat->Prop}{W rO tR:World}{b5 B q i0 g cap n1 j:Nat}{E:World->Prop}{enc:(Nat->Prop)->World->α->List Value->Prop}{l:List α}{css:List (List Value)}{v:Value}{x:α}{news:List Value}
  (hS:Mk T zero p O S W b5 cells E q rO) (hW:p.At W i0) (hb:b5<B) (hG:Gro k Te enc B l css v rO) (he:eF enc) (hx:enc (nE B v) rO x news) (hk:news.length=k) (hE:dZ (fun b=>B<=b) E)
  (pT:tR.ownsRow B Te k (.slice (some ⟨g,0,none⟩) n1 cap) n1 (css.flatten++news)) (hn:n1=l.length+1) (pL:(rO.alloc (.cells news.toArray T0)).grownBy tR v.ownBlock) (qW:v.ownBlock=some g\/g=rO.heap.size+1) (hc:cells.setIfInBounds j (.slice (some ⟨g,0,none⟩) n1 cap)=cells'):
  tR.heap[b5]? =some (.cells cells T)/\Mk T zero p O S W b5 cells' E q (tR.setCell ⟨b5,j,none⟩ (.slice (some ⟨g,0,none⟩) n1 cap))/\Gro k Te enc B (l++[x]) (css++[news]) (.slice (some ⟨g,0,none⟩) n1 cap) (tR.setCell ⟨b5,j,none⟩ (.slice (some ⟨g,0,none⟩) n1 cap))/\
  Off (fun b=>B<=b\/b=b5) rO (tR.setCell ⟨b5,j,none⟩ (.slice (some ⟨g,0,none⟩) n1 cap)):=by
 subst hn;have DU:=aC rO (.cells news.toArray T0);have hG9:=hG.later he DU;have pS:=hG9.lt;have hz:(rO.alloc (.cells news.toArray T0)).heap.size=rO.heap.size+1:=VY;have oG:Off (fun b=>B<=b) rO tR:=(Ba DU).trans ⟨pL.os,pL.tape,pL.output,pL.size,fun b hb hn=>pL.block b hb (fun e=>hn (pS b e.symm).1)⟩;have xW:=hG9.added he (he _ _ _ _ _ _ (aK.later DU) hx) hk pT pL (by rw[hz];exact qW);have DZ:=hS.above hW hb oG hE;have CX:Off (fun b=>b=b5) tR (tR.setCell ⟨b5,j,none⟩ (.slice (some ⟨g,0,none⟩) (l.length+1) cap)):=Off.setCell (S:=fun b=>b=b5) tR rfl;exact⟨DZ.loc,DZ.put hW CX (by rw[aW DZ.loc,hc]),xW.stays he (cV.of_off CX fun b pM=>.inl Y7),(oG.mono fun b hb=>.inl hb).trans (CX.mono fun b hb=>.inr hb)⟩
theorem grow_pair{α β:Type}{k k2:Nat}{T T0 Te Te2:TypeId}{zero cells cells':Array Value}{p:Prs}{O S:Nat->Prop}{W rO tR:World}{b5 B q i0 g cap n1 j:Nat}{E:World->Prop}{enc:(Nat->Prop)->World->α->List Value->Prop}{enc2:(Nat->Prop)->World->β->List Value->Prop}{l:List α}{l2:List β}{css css2:List (List Value)}{v v2:Value}{x:α}{news:List Value}
  (hS:Mk T zero p O S W b5 cells E q rO) (hW:p.At W i0) (hb:b5<B) (hP:Pair k Te enc k2 Te2 enc2 B l css v l2 css2 v2 rO) (he:eF enc) (rL:eF enc2) (hx:encA v2.ownBlock enc (nE B v) rO x news) (hk:news.length=k) (hE:dZ (fun b=>B<=b) E)
  (pT:tR.ownsRow B Te k (.slice (some ⟨g,0,none⟩) n1 cap) n1 (css.flatten++news)) (hn:n1=l.length+1) (pL:(rO.alloc (.cells news.toArray T0)).grownBy tR v.ownBlock) (qW:v.ownBlock=some g\/g=rO.heap.size+1) (hc:cells.setIfInBounds j (.slice (some ⟨g,0,none⟩) n1 cap)=cells'):
  tR.heap[b5]? =some (.cells cells T)/\Mk T zero p O S W b5 cells' E q (tR.setCell ⟨b5,j,none⟩ (.slice (some ⟨g,0,none⟩) n1 cap))/\Pair k Te enc k2 Te2 enc2 B (l++[x]) (css++[news]) (.slice (some ⟨g,0,none⟩) n1 cap) l2 css2 v2 (tR.setCell ⟨b5,j,none⟩ (.slice (some ⟨g,0,none⟩) n1 cap))/\
  Off (fun b=>B<=b\/b=b5) rO (tR.setCell ⟨b5,j,none⟩ (.slice (some ⟨g,0,none⟩) n1 cap)):=by
 have DU:=aC rO (.cells news.toArray T0);have hP9:=hP.stays he rL (.of_below DU);have pS:=hP9.a.lt;have hz:(rO.alloc (.cells news.toArray T0)).heap.size=rO.heap.size+1:=VY;have oG:Off (fun b=>B<=b) rO tR:=(Ba DU).trans ⟨pL.os,pL.tape,pL.output,pL.size,fun b hb hn=>pL.block b hb (fun e=>hn (pS b e.symm).1)⟩;have hP13:=hP9.add he rL (encA_ok _ he _ _ _ _ _ _ (aK.later DU) hx) hk pT hn pL (by rw[hz];exact qW);have DZ:=hS.above hW hb oG hE;have CX:Off (fun b=>b=b5) tR (tR.setCell ⟨b5,j,none⟩ (.slice (some ⟨g,0,none⟩) n1 cap)):=Off.setCell (S:=fun b=>b=b5) tR rfl;exact⟨DZ.loc,DZ.put hW CX (by rw[aW DZ.loc,hc]),hP13.stays he rL (cV.of_off CX fun b pM=>.inl Y7),(oG.mono fun b hb=>.inl hb).trans (CX.mono fun b hb=>.inr hb)⟩
theorem fresh_off{α:Type}{enc:(Nat->Prop)->World->α->List Value->Prop}(he:eF enc){B C:Nat}{w:World}{v:Value}{x:α}{cs:List Value}(h:enc (bP C) w x cs)(hB:B<=C)(hv:∀b,v.ownBlock=some b->b<C):enc (nE B v) w x cs:=
 he.wide h fun b hb _=>⟨by have hb:C<=b:=hb;omega,fun e=>by have hb:C<=b:=hb;have:=hv b e;omega⟩
theorem fresh_offA{α:Type}{enc:(Nat->Prop)->World->α->List Value->Prop}(he:eF enc){B C:Nat}{w:World}{v v2:Value}{x:α}{cs:List Value}(h:enc (bP C) w x cs)(hB:B<=C)(hv:∀b,v.ownBlock=some b->b<C)(wE:∀b,v2.ownBlock=some b->b<C):encA v2.ownBlock enc (nE B v) w x cs:=
 he.wide h fun b hb _=>⟨⟨by have hb:C<=b:=hb;omega,fun e=>by have hb:C<=b:=hb;have:=hv b e;omega⟩,fun e=>by have hb:C<=b:=hb;have:=wE b e;omega⟩
section
variable {l:List Tok}
theorem fieldsFrom_len{most:Nat}:∀(F:Nat)(fs:List Fld)(i:Nat)(r:List Fld)(j:Nat),fs.length<=most->eJ l most F fs i=.ok (r,j)->r.length<=most
 |0,fs,i,r,j,hl,h=>by unfold eJ at h;cases h;exact hl
 |F+1,fs,i,r,j,hl,h=>by
  cases hq:dC l i with
  |false=>rw[nV hq] at h;cases h
  |true=>
   by_cases hm:fs.length<most
   ·rw[jW hq hm] at h;obtain⟨s,j1,-,h⟩:=PR.of_bnd h;obtain⟨t,j2,-,h⟩:=PR.of_bnd h;obtain⟨q,j3,-,h⟩:=PR.of_bnd h;split at h
    ·cases h;simp;omega
    exact fieldsFrom_len F _ _ r j XJ h
   rw[fieldsFrom_full hq hm] at h;cases h
theorem fieldsP_len{most i j:Nat}{r:List Fld}(h:jV l most i=.ok (r,j)):r.length<=most:=by
 unfold jV at h;obtain⟨_,j1,-,h⟩:=PR.of_bnd h;split at h
 ·cases h;simp
 exact fieldsFrom_len _ _ _ _ _ VY h
theorem moveP_no{n i:Nat}(h:isP l i lT=false):moveP l n i=.ok ((false,[],[],[]),i):=by unfold moveP;rw[if_neg (by rw[h];simp)]
theorem moveP_yes{n i:Nat}(h:isP l i lT=true):moveP l n i=(jV l 8 (i+1)).bnd fun old j=>(dN l j gP).bnd fun _ j2=>(iC l n j2 nU).bnd fun fw j3=>(iC l old.length j3 fD).bnd fun bk k=>.ok ((true,old,fw,bk),k):=by unfold moveP;rw[if_pos h]
end
def modK4(l:List Tok)(name:bA)(us:List bA)(ve:List Fld×List Xp)(fs:List Fnc)(i6:Nat):PR Mdl:=(moveP l ve.1.length i6).bnd fun mv i7=>if(aM l i7).kind=3 then .ok (⟨name,us,ve.1,ve.2,fs,mv.1,mv.2.1,mv.2.2.1,mv.2.2.2⟩,i7) else gK l i7 11
def modK3(l:List Tok)(name:bA)(us:List bA)(ve:List Fld×List Xp)(i5:Nat):PR Mdl:=(gI l (l.length+1) [] i5).bnd fun fs i6=>modK4 l name us ve fs i6
def modK2(l:List Tok)(name:bA)(us:List bA)(i4:Nat):PR Mdl:=(iV l (l.length+1) [] [] i4).bnd fun ve i5=>modK3 l name us ve i5
def modK5(l:List Tok)(name:bA)(us:List bA)(ve:List Fld×List Xp)(fs:List Fnc)(mv:Bool×List Fld×List Xp×List Xp)(i7:Nat):PR Mdl:=if(aM l i7).kind=3 then .ok (⟨name,us,ve.1,ve.2,fs,mv.1,mv.2.1,mv.2.2.1,mv.2.2.2⟩,i7) else gK l i7 11
theorem modK4_eq(l:List Tok)(name:bA)(us:List bA)(ve:List Fld×List Xp)(fs:List Fnc)(i:Nat):modK4 l name us ve fs i=(moveP l ve.1.length i).bnd fun mv i7=>modK5 l name us ve fs mv i7:=rfl
theorem modK4_yes{l:List Tok}{name:bA}{us:List bA}{vs:List Fld}{es:List Xp}{fs:List Fnc}{i:Nat}(h:isP l i lT=true):modK4 l name us (vs,es) fs i=((jV l 8 (i+1)).bnd fun old j=>(dN l j gP).bnd fun _ j2=>(iC l vs.length j2 nU).bnd fun fw j3=>(iC l old.length j3 fD).bnd fun bk k=>.ok ((true,old,fw,bk),k)).bnd fun mv i7=>modK5 l name us (vs,es) fs mv i7:=by
 rw[modK4_eq,moveP_yes h]
theorem moduleP_eq(l:List Tok):gN l=(dN l 0 bR).bnd fun _ i=>(fR l i).bnd fun name i2=>(dN l i2 fD).bnd fun _ i3=>(iH l (l.length+1) [] i3).bnd fun us i4=>modK2 l name us i4:=rfl
theorem fnInfo:(Tryz.prog.info? 47).map (fun i=>(i.zero,i.size,i.bytes))=some (some (oBx11 ByteArray.empty false none 0 0 0 none 0 0 0 0 0 ByteArray.empty ByteArray.empty none 0 0 none 0 0),12,184):=VT
end Go.Proofs.YtiionicikdnnpaaGreatDoor
