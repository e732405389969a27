/- Texts of this seat, joined. -/
import Derived.Great.BuildSlice
import Derived.Test.YtiionicikdnnpaaGreatDoorCY
set_option maxHeartbeats 8000000
set_option maxRecDepth 100000
set_option linter.unusedVariables false
set_option linter.unusedSimpArgs false
namespace Go.Proofs.YtiionicikdnnpaaGreatDoor
open Go.RowKit
section
variable {o:Oper} {a:Act} {w:World} {K:Act->World->Prop} {Q:Exit->Act->World->Prop}
theorem xpSize:(Tryz.prog.info? 35).map (·.size)=some 6:=YN
theorem xp_load(g:Nat){c0 c1 c2 c3 c4 c5:Value}(hg:w.heap[g]? =some (.cells #[c0,c1,c2,c3,c4,c5] 35))(x:Operand)(ho:o.op=.load 35 x)(hx:a.eval x=.pointer (some ⟨g,0,none⟩))
  (h:K (a.put o.dst (.agg #[c0,c1,c2,c3,c4,c5])) w):o.wp Tryz.prog a w K Q:=
 wp_load_row _ x ho g hx _ _ _ _ hg Tryz.underlying35 rfl xpSize h
theorem oS(g:Nat){z0 z1 z2 z3 z4 z5 c0 c1 c2 c3 c4 c5:Value}(hg:w.heap[g]? =some (.cells #[z0,z1,z2,z3,z4,z5] 35))(x y:Operand)(ho:o.op=.store 35 x y)(hx:a.eval x=.pointer (some ⟨g,0,none⟩))(hy:a.eval y=.agg #[c0,c1,c2,c3,c4,c5])(h1:#[c0,c1,c2,c3,c4,c5].all (·.oneCell')=true)
  (h:K (a.put o.dst undef) (w.setRow g #[c0,c1,c2,c3,c4,c5])):o.wp Tryz.prog a w K Q:=
 wp_store_row _ x y ho g _ hx hy _ _ hg xpSize rfl h1 h
theorem xp_slice1{c0 c1 c2 c3 c4 c5:Value}(x:Operand)(ho:o.op=.buildSlice 25 1 #[(0,x)])(hx:a.eval x=.agg #[c0,c1,c2,c3,c4,c5])
  (h:K (a.put o.dst (.slice (some ⟨w.heap.size,0,none⟩) 1 1)) (w.alloc (.cells #[c0,c1,c2,c3,c4,c5] 35))):o.wp Tryz.prog a w K Q:=by
 obtain⟨ie,hie,hz,hs,-⟩:=info_parts xpInfo;refine wp_buildSlice _ _ 1 _ ho #[c0,c1,c2,c3,c4,c5] ie _ Tryz.underlying25 hie hz (by rw[hs];decide) (by rw[hs];decide) ?_ h;rw[hs];simp only[List.map_toArray,List.map_cons,List.map_nil,hx]
 kernel_rfl
theorem xp_slice2{c0 c1 c2 c3 c4 c5 d0 d1 d2 d3 d4 d5:Value}(x y:Operand)(ho:o.op=.buildSlice 25 2 #[(0,x),(1,y)])(hx:a.eval x=.agg #[c0,c1,c2,c3,c4,c5])(hy:a.eval y=.agg #[d0,d1,d2,d3,d4,d5])
  (h:K (a.put o.dst (.slice (some ⟨w.heap.size,0,none⟩) 2 2)) (w.alloc (.cells #[c0,c1,c2,c3,c4,c5,d0,d1,d2,d3,d4,d5] 35))):o.wp Tryz.prog a w K Q:=by
 obtain⟨ie,hie,hz,hs,-⟩:=info_parts xpInfo;refine wp_buildSlice _ _ 2 _ ho #[c0,c1,c2,c3,c4,c5,d0,d1,d2,d3,d4,d5] ie _ Tryz.underlying25 hie hz (by rw[hs];decide) (by rw[hs];decide) ?_ h;rw[hs];simp only[List.map_toArray,List.map_cons,List.map_nil,hx,hy]
 kernel_rfl
end
theorem row_off(w:World)(g:Nat)(cs:Array Value):Off (fun b=>b=g) w (w.setRow g cs):=⟨rfl,rfl,rfl,YR,fun k _ hn=>setRow_other w g k cs hn⟩
end Go.Proofs.YtiionicikdnnpaaGreatDoor
namespace Go.Proofs.YtiionicikdnnpaaGreatDoor
open Go.RowKit
theorem XA{p:Prop}(h:p:=by
 obtain⟨_,_,-,h⟩:=PR.of_bnd h;obtain⟨_,_,-,h⟩:=PR.of_bnd h;obtain⟨_,_,-,h⟩:=PR.of_bnd h;obtain⟨_,_,-,h⟩:=PR.of_bnd h;obtain⟨_,_,-,h⟩:=PR.of_bnd h;cases h;exact Nat.zero_le _):p:=h
def mD:List Value:=(eW.map fun o=>[Value.string o.1,.int .i64 o.2.1,.int .i64 (o.2.2:Int)]).flatten
theorem operators_any(w:World):Calls Tryz.prog 135 #[] w fun e w'=>e=.returned (.slice (some ⟨w.heap.size,0,none⟩) 7 7)/\w'=w.alloc (.cells mD.toArray 166):=by
 go_enter Tryz.func135,Tryz.ntmps135
 go_wp2
 go_ret;exact⟨rfl,rfl⟩
theorem opers_one{l:List Tok}{i a b:Nat}{x y:bA×Int×Nat}(hx:eW[a]? =some x)(hy:eW[b]? =some y)(h1:isP l i x.1=true)(h2:isP l i y.1=true):a=b:=by
 unfold isP at h1 h2;simp only[Bool.and_eq_true,decide_eq_true_eq] at h1 h2;have e:x.1=y.1:=h1.2.symm.trans h2.2;have ha:=(Yb.1 hx).1;have hb:=(Yb.1 hy).1;have key:∀a b:Fin 7,(eW.map fun o=>o.1.data.toList)[a.1]? =(eW.map fun o=>o.1.data.toList)[b.1]? ->a=b:=YO;have uE:a<7:=ha;have yF:b<7:=hb;have:=key ⟨a,uE⟩ ⟨b,yF⟩ (by simp only[List.getElem?_map,hx,hy,Option.map_some,e]);exact congrArg Fin.val this
structure ExL (p:Prs) (W:World) (b5:Nat) (x:Xp) (cs:List Value) (q:Nat) (wr:World):Prop where
 off:Off p.S W wr
 res:wr.heap[W.heap.size]? =some (.cells bW 35)
 loc:wr.heap[b5]? =some (.cells cs.toArray 35)
 enc:bN (fun b=>W.heap.size<b/\b≠b5) wr x cs
 b5:W.heap.size<b5
 pb:p.pb<W.heap.size
 at_:p.At wr q
section
variable {p:Prs} {W wr w':World} {b5 q j:Nat} {x y:Xp} {cs:List Value}
theorem ExL.next(h:ExL p W b5 x cs q wr)(ho:Off p.S wr w')(ha:p.At w' j):ExL p W b5 x cs j w':=by
 have wQ:=h.pb;have hb:=h.b5;exact⟨h.off.trans ho,ho.heap (fun e=>by have e:W.heap.size=p.pb:=e;omega) h.res,ho.heap (fun e=>by have e:b5=p.pb:=e;omega) h.loc,aI.off h.enc ho (fun b rQ hn=>by have rQ:b=p.pb:=rQ;have:=hn.1;omega),hb,wQ,ha⟩
theorem ExL.below(h:ExL p W b5 x cs q wr)(hb:Below wr.heap.size wr w'):ExL p W b5 x cs q w':=h.next (Ba hb) (h.at_.later hb)
theorem ExL.put{i0:Nat}{z0 z1 z2 z3 z4 z5 y0 y1 y2 y3 y4 y5:Value}(h:ExL p W b5 x [z0,z1,z2,z3,z4,z5] q wr)(hW:p.At W i0)(hx:bN (fun b=>W.heap.size<b/\b≠b5) wr y [y0,y1,y2,y3,y4,y5]):
  ExL p W b5 y [y0,y1,y2,y3,y4,y5] q (wr.setRow b5 #[y0,y1,y2,y3,y4,y5]):=by
 have o:=row_off wr b5 #[y0,y1,y2,y3,y4,y5];have hb:=h.b5;exact⟨Off.fresh ((h.off.or _).trans (o.mono fun b rQ=>.inr aA2)) (Nat.le_refl _),o.heap YM h.res,setRow_heap _ _ _ _ _ _ h.loc,aI.off hx o (fun b rQ hn=>hn.2 rQ),hb,h.pb,hW.above h.at_ (o.mono fun b rQ=>aA2)⟩
end
section
variable {l:List Tok} {rec:RecP} {form own F q:Nat} {e:Xp}
theorem dots_no(h:isP l q mH=false):lJ l (F+1) e q=.ok (e,q):=by rw[lJ,if_neg (by rw[h];simp)]
theorem dots_yes(h:isP l q mH=true):lJ l (F+1) e q=(gK l (q+1)).bnd fun s j=>lJ l F (.mk 14 0 s noB [] [e]) j:=by rw[lJ,if_pos h]
theorem ops_none(h:kA l q=none):nH l rec form (F+1) own e q=.ok (e,q):=by rw[nH,h]
theorem ops_stop{t:bA}{op:Int}{fm:Nat}(h:kA l q=some (t,op,fm))(hc:fm<form\/own<fm\/(own=4/\fm=4)):nH l rec form (F+1) own e q=.ok (e,q):=by rw[nH,h];simp only;rw[if_pos hc]
theorem ops_on{t:bA}{op:Int}{fm:Nat}(h:kA l q=some (t,op,fm))(hc:¬(fm<form\/own<fm\/(own=4/\fm=4))):nH l rec form (F+1) own e q=(rec (fm+1) (q+1)).bnd fun b j=>nH l rec form F fm (.mk op 0 noB noB [] [e,b]) j:=by rw[nH,h];simp only;rw[if_neg hc]
end
def opSeen(l:List Tok)(q k:Nat):bA×Int×Nat:=((eW.take k).find? fun o=>isP l q o.1).getD (⟨#[]⟩,0,0)
theorem opSeen_all(l:List Tok)(q:Nat):opSeen l q 7=(kA l q).getD (⟨#[]⟩,0,0):=rfl
theorem opSeen_no{l:List Tok}{q k:Nat}{o:bA×Int×Nat}(hk:eW[k]? =some o)(hn:isP l q o.1=false):opSeen l q (k+1)=opSeen l q k:=by
 unfold opSeen;rw[List.take_add_one,hk,List.find?_append];simp[hn]
theorem opSeen_yes{l:List Tok}{q k:Nat}{o:bA×Int×Nat}(hk:eW[k]? =some o)(hy:isP l q o.1=true):opSeen l q (k+1)=o:=by
 unfold opSeen;rw[List.take_add_one,hk,List.find?_append]
 cases hf:(eW.take k).find? fun o=>isP l q o.1 with
 |none=>simp[hy]
 |some y=>
  have FD:=List.find?_some hf;have hm:=List.mem_of_find?_eq_some hf;obtain⟨a,ha⟩:=List.mem_iff_getElem?.1 hm
  have rU:a<k:=by
   have:=(Yb.1 ha).1;simp at this;omega
  rw[List.getElem?_take,if_pos rU] at ha;have:=opers_one ha hk FD hy;omega
theorem opers_at{k:Nat}{t:bA}{op:Int}{fm:Nat}(hk:eW[k]? =some (t,op,fm)):mD[k*3]? =some (.string t)/\mD[k*3+1]? =some (.int .i64 op)/\mD[k*3+2]? =some (.int .i64 (fm:Int)):=by
 have h7:k<7:=(Yb.1 hk).1
 match k,h7,hk with
 |0,_,hk=>cases hk;exact⟨rfl,rfl,rfl⟩
 |1,_,hk=>cases hk;exact⟨rfl,rfl,rfl⟩
 |2,_,hk=>cases hk;exact⟨rfl,rfl,rfl⟩
 |3,_,hk=>cases hk;exact⟨rfl,rfl,rfl⟩
 |4,_,hk=>cases hk;exact⟨rfl,rfl,rfl⟩
 |5,_,hk=>cases hk;exact⟨rfl,rfl,rfl⟩
 |6,_,hk=>cases hk;exact⟨rfl,rfl,rfl⟩
theorem operAt_ok{l:List Tok}{q:Nat}{t:bA}{op:Int}{fm:Nat}(h:kA l q=some (t,op,fm)):¬t=⟨#[]⟩/\fm<=6/\isP l q t=true:=by
 have hm:=List.mem_of_find?_eq_some h;have hp:=List.find?_some h;refine⟨?_,?_,hp⟩
 ·simp only[eW,List.mem_cons,List.not_mem_nil,or_false,Prod.mk.injEq] at hm;rcases hm with⟨rfl,-,-⟩|⟨rfl,-,-⟩|⟨rfl,-,-⟩|⟨rfl,-,-⟩|⟨rfl,-,-⟩|⟨rfl,-,-⟩|⟨rfl,-,-⟩<;>decide
 simp only[eW,List.mem_cons,List.not_mem_nil,or_false,Prod.mk.injEq] at hm;rcases hm with⟨-,-,rfl⟩|⟨-,-,rfl⟩|⟨-,-,rfl⟩|⟨-,-,rfl⟩|⟨-,-,rfl⟩|⟨-,-,rfl⟩|⟨-,-,rfl⟩<;>decide
structure OpI (p:Prs) (W:World) (b5:Nat) (x:Xp) (cs:List Value) (q g:Nat) (seen:bA×Int×Nat) (wr:World):Prop where
 ex:ExL p W b5 x cs q wr
 xc:wr.heap[g]? =some (qW seen.1 seen.2.1 (seen.2.2:Int))
 oc:wr.heap[g+1]? =some (.cells mD.toArray 166)
 lt:b5<g
 en:bN (fun b=>W.heap.size<b/\b≠b5/\b<g) wr x cs
theorem ExL.search{p:Prs}{W wr:World}{b5 q:Nat}{x:Xp}{cs:List Value}(h:ExL p W b5 x cs q wr):
  OpI p W b5 x cs q wr.heap.size (⟨#[]⟩,0,0) ((wr.alloc (qW ⟨#[]⟩ 0 0)).alloc (.cells mD.toArray 166)):=by
 have b1:=aA wr (qW ⟨#[]⟩ 0 0);have b2:=aA (wr.alloc (qW ⟨#[]⟩ 0 0)) (.cells mD.toArray 166);have hz:=(Array.getElem?_eq_some_iff.1 h.loc).1;have hn:=bY (wr.alloc (qW ⟨#[]⟩ 0 0)) (.cells mD.toArray 166);rw[show(wr.alloc (qW ⟨#[]⟩ 0 0)).heap.size=wr.heap.size+1 by simp] at hn;exact⟨(h.below b1).below b2,aH b2 (bY wr _),hn,hz,aI _ _ _ _ _ _ (fun b hb hl=>⟨⟨hb.1,hb.2,hl⟩,fun o u hu=>aD (aC b1 b2) hu⟩) h.enc⟩
section
variable {p:Prs} {W wr w':World} {b5 q g:Nat} {x:Xp} {cs:List Value} {seen:bA×Int×Nat}
theorem OpI.below(h:OpI p W b5 x cs q g seen wr)(hb:Below wr.heap.size wr w'):OpI p W b5 x cs q g seen w':=⟨h.ex.below hb,aH hb h.xc,aH hb h.oc,h.lt,aI _ _ _ _ _ _ (bU.later hb) h.en⟩
theorem OpI.put{i0:Nat}{t:bA}{op:Int}{fm:Nat}(h:OpI p W b5 x cs q g seen wr)(hW:p.At W i0):OpI p W b5 x cs q g (t,op,fm) (((wr.setCell ⟨g,0,none⟩ (.string t)).setCell ⟨g,1,none⟩ (.int .i64 op)).setCell ⟨g,2,none⟩ (.int .i64 (fm:Int))):=by
 have o:Off (fun b=>b=g) wr (((wr.setCell ⟨g,0,none⟩ (.string t)).setCell ⟨g,1,none⟩ (.int .i64 op)).setCell ⟨g,2,none⟩ (.int .i64 (fm:Int))):=(((Off.setCell (b:=g) wr rfl).trans (Off.setCell _ rfl)).trans (Off.setCell _ rfl)).mono fun b hb=>Eq.symm hb;have hb:=h.ex.b5;have hl:=h.lt;have hc:=h.xc;have LN:=aI.off h.en o fun b rQ hn=>by have rQ:b=g:=rQ;have:=hn.2.2;omega
 refine⟨⟨Off.fresh ((h.ex.off.or _).trans (o.mono fun b rQ=>.inr (by have rQ:b=g:=rQ;omega))) (Nat.le_refl _),o.heap YM h.ex.res,o.heap YM h.ex.loc,?_,hb,h.ex.pb,hW.above h.ex.at_ (o.mono fun b rQ=>by have rQ:b=g:=rQ;omega)⟩,?_,o.heap YM h.oc,hl,LN⟩
 ·exact aI.wide LN fun b tI _=>⟨tI.1,tI.2.1⟩
 rw[aT (aT (aT hc _) _) _];rfl
end
theorem bD{t:bA}(h:t.toList=[]):t=⟨#[]⟩:=by
 have h1:=eG t ⟨#[]⟩;rw[h,toList_nil (s:=⟨#[]⟩) rfl] at h1;exact of_decide_eq_true h1.symm
theorem prefix_own{l:List Tok}{rec:RecP}{form i j:Nat}{r:Xp×Nat}(h:cH l rec form i=.ok (r,j)):r.2<=8:=by
 unfold cH at h;split at h
 ·exact XA
 split at h
 ·exact XA
 split at h
 ·obtain⟨_,_,-,h⟩:=PR.of_bnd h;obtain⟨_,_,-,h⟩:=PR.of_bnd h;cases h;exact Nat.zero_le _
 split at h
 ·obtain⟨_,_,-,h⟩:=PR.of_bnd h;cases h;show 3<=8;decide
 obtain⟨_,_,-,h⟩:=PR.of_bnd h;cases h;show 8<=8;decide
end Go.Proofs.YtiionicikdnnpaaGreatDoor
namespace Go.Proofs.YtiionicikdnnpaaGreatDoor
open Go.RowKit
theorem VF{p:Prop}(h:p:=by
 have D1:=isP_lt HI.out.ex.at_ htq;have b1:=HI.out.ex.at_.box1;have T4:=HI.out.ex.at_.froz;have KU:=HI.out.ex.at_.bound;have tM:=HI.out.ex.at_.step D1;have TB:wr.heap.size≠p.pb:=by have:=HI.out.ex.pb;have:=HI.out.ex.b5;have:=HI.out.lt;omega
 go_wp2_with fail;have xZ:Hid (ExL p w b5 x [.int .i64 op,.int .i64 n,.string s,.string m,.slice a1 n1 c1,.slice a2 n2 c2] (q+1) (w2.setCell ⟨p.pb,1,none⟩ (.int .i64 ((q:Int)+1)))):=zh (HI.out.ex.next tM.2 tM.1);have uH:Hid ((w2.setCell ⟨p.pb,1,none⟩ (.int .i64 ((q:Int)+1))).heap[wr.heap.size]? =some (qW t2 wT (yK:Int))):=zh (tM.2.heap (fun e=>TB e) HI.out.xc);have QG:Hid (p.At (w2.setCell ⟨p.pb,1,none⟩ (.int .i64 ((q:Int)+1))) (q+1)):=zh tM.1;have hq5:=HB.out.1;have hq6:=HB.out.2;clear tM b1 T4 k0 k1 k2 j0 j1 j2 tN HI sA hte htq htn;generalize (w2.setCell ⟨p.pb,1,none⟩ (.int .i64 ((q:Int)+1)))=w4 at *;generalize wr.heap.size=g at *;have hgw:=(Array.getElem?_eq_some_iff.1 uH.out).1;refine wp_region_held_drew (S:=(fun W=>W.heap[g]? =some (qW t2 wT (yK:Int)))) YN (aH (aE _) uH.out) fun hS=>?_;refine zq 0 (.pointer (some ⟨g,1,none⟩)) rfl ?_;refine zt 1 (.int .i64 wT) rfl (fun W hW=>by(obtain⟨⟨k0,k1,k2⟩,j0,j1,j2⟩:=bx3 hW);go_simp) ?_;refine zq 3 (.pointer (some ⟨p.pb,0,none⟩)) rfl ?_;refine zq 4 (.pointer (some ⟨g,2,none⟩)) rfl ?_;refine zt 5 (.int .i64 (yK:Int)) rfl (fun W hW=>by(obtain⟨⟨k0,k1,k2⟩,j0,j1,j2⟩:=bx3 hW);go_simp) ?_;refine zt 6 (.int .i64 ((yK:Int)+1)) rfl (fun W hW=>by have hfmw:IntKind.i64.wrap ((yK:Int)+1)=(yK:Int)+1:=ZM;go_simp) ?_;try simp only[zn]
 refine wpAnyH_ready (rs:=[2,7]) YN YR ?_;refine AllReadyH.cons rfl (fun K hK=>?_) (AllReadyH.cons rfl (fun K hK=>?_) AllReadyH.nil)
 ·rw[if_pos YN];try simp only[z1,z2,z3]
  refine xp_load b5 (xZ.out.below (aE _)).loc _ rfl rfl ?_;refine hK.out _ _ (hS) (fun hS=>?_);clear hK K;try simp only[zn]
  refine zr 7 rfl (fun K hK=>?_);try simp only[z1,z2,z3]
  go_simp;refine(HE.out (yK+1) (q+1) w4.drew (QG.out.later (aE _)) YM YM).mono ?_;rintro e w5 (⟨x5,sQ,rfl,sC⟩|⟨xb,jb,sQ,⟨⟨opc,nc,sc,mc,pc,qc,rc,tc,uc,vc,rfl,IA⟩,uS,I7⟩,sC⟩)
  ·go_wp2_with fail;exact⟨rfl,Ran.bad' (yP.out.trans (PR.bnd_bad sQ)) (xZ.out.off.trans ((Ba (aE _)).trans sC))⟩
  have wA:=zh ((xZ.out.below (aE _)).next sC uS);have VD:=zh IA;have GM:=zh (yP.out.trans (PR.bnd_ok sQ));have AY:w4.heap.size<=w5.heap.size:=sC.size;have TW:=sC.heap (show g≠p.pb from YM) hS;clear uS sC IA sQ;refine hK.out _ _ (TW) (fun hS=>?_);clear hK K;try simp only[zn]
  have zZ:=zh (wA.out.below (aA w5 (qV op n s m a1 n1 c1 a2 n2 c2 opc nc sc mc pc qc rc tc uc vc)));have BF:=zh (zZ.out.put HW.out (y:=.mk wT 0 noB noB [] [x,xb]) (y0:=.int .i64 wT) (y1:=.int .i64 0) (y2:=.string ⟨#[]⟩) (y3:=.string ⟨#[]⟩) (y4:=.slice none 0 0) (y5:=.slice (some ⟨w5.heap.size,0,none⟩) 2 2) YW);refine zr 8 rfl (fun K hK=>?_);try simp only[z1,z2,z3]
  refine xp_slice2 _ _ rfl rfl rfl ?_;refine hK.out _ _ (aH (aA w5 _) hS) (fun hS=>?_);clear hK K;refine zq 9 (eK wT 0 ⟨#[]⟩ ⟨#[]⟩ none 0 0 (some ⟨w5.heap.size,0,none⟩) 2 2) rfl ?_;try simp only[zn]
  refine zr 10 rfl (fun K hK=>?_);try simp only[z1,z2,z3]
  refine oS b5 zZ.out.loc _ _ rfl rfl rfl Y3 ?_;refine hK.out _ _ ((setRow_other _ _ _ _ YM).trans hS) (fun hS=>?_);clear hK K;try simp only[zn]
  refine wpAnyH_done YN ?_ _;clear zZ HE;have HS:=zh hS;have HQ:=zh HLq.out;generalize World.setRow (w5.alloc (qV op n s m a1 n1 c1 a2 n2 c2 opc nc sc mc pc qc rc tc uc vc)) b5 #[.int .i64 wT,.int .i64 0,.string ⟨#[]⟩,.string ⟨#[]⟩,.slice none 0 0,.slice (some ⟨w5.heap.size,0,none⟩) 2 2]=w6 at *;clear hS;obtain⟨⟨k0,k1,k2⟩,j0,j1,j2⟩:=bx3 HS.out;go_wp2_with fail;go_roundw
  case rel=>
   obtain⟨F',wE⟩:∃F',F=F'+1:=⟨F-1,by have:=HB.out.1;have:=D1;omega⟩;subst wE;exact⟨jb,F',yK,_,wT,0,⟨#[]⟩,⟨#[]⟩,none,0,0,some ⟨w5.heap.size,0,none⟩,2,2,rfl,YM,BF,GM,zh ⟨by have:=HB.out;omega,by have:=HB.out;omega⟩⟩
  case measure=>
   have h1:=BF.out.at_.pos;have h2:=BF.out.at_.lt;rw[h1,HQ.out];omega
 rw[if_pos YN];try simp only[z1,z2,z3]
 go_simp;refine(HE.out (yK+1) (q+1) w4.drew (QG.out.later (aE _)) YM YM).mono ?_;rintro e w5 (⟨x5,sQ,rfl,sC⟩|⟨xb,jb,sQ,⟨⟨opc,nc,sc,mc,pc,qc,rc,tc,uc,vc,rfl,IA⟩,uS,I7⟩,sC⟩)
 ·go_wp2_with fail;exact⟨rfl,Ran.bad' (yP.out.trans (PR.bnd_bad sQ)) (xZ.out.off.trans ((Ba (aE _)).trans sC))⟩
 have wA:=zh ((xZ.out.below (aE _)).next sC uS);have VD:=zh IA;have GM:=zh (yP.out.trans (PR.bnd_ok sQ));have AY:w4.heap.size<=w5.heap.size:=sC.size;have TW:=sC.heap (show g≠p.pb from YM) hS;clear uS sC IA sQ;refine hK.out _ _ (TW) (fun hS=>?_);clear hK K;try simp only[zn]
 refine zr 2 rfl (fun K hK=>?_);try simp only[z1,z2,z3]
 refine xp_load b5 wA.out.loc _ rfl rfl ?_;refine hK.out _ _ (hS) (fun hS=>?_);clear hK K;try simp only[zn]
 have zZ:=zh (wA.out.below (aA w5 (qV op n s m a1 n1 c1 a2 n2 c2 opc nc sc mc pc qc rc tc uc vc)));have BF:=zh (zZ.out.put HW.out (y:=.mk wT 0 noB noB [] [x,xb]) (y0:=.int .i64 wT) (y1:=.int .i64 0) (y2:=.string ⟨#[]⟩) (y3:=.string ⟨#[]⟩) (y4:=.slice none 0 0) (y5:=.slice (some ⟨w5.heap.size,0,none⟩) 2 2) YW);refine zr 8 rfl (fun K hK=>?_);try simp only[z1,z2,z3]
 refine xp_slice2 _ _ rfl rfl rfl ?_;refine hK.out _ _ (aH (aA w5 _) hS) (fun hS=>?_);clear hK K;refine zq 9 (eK wT 0 ⟨#[]⟩ ⟨#[]⟩ none 0 0 (some ⟨w5.heap.size,0,none⟩) 2 2) rfl ?_;try simp only[zn]
 refine zr 10 rfl (fun K hK=>?_);try simp only[z1,z2,z3]
 refine oS b5 zZ.out.loc _ _ rfl rfl rfl Y3 ?_;refine hK.out _ _ ((setRow_other _ _ _ _ YM).trans hS) (fun hS=>?_);clear hK K;try simp only[zn]
 refine wpAnyH_done YN ?_ _;clear zZ HE;have HS:=zh hS;have HQ:=zh HLq.out;generalize World.setRow (w5.alloc (qV op n s m a1 n1 c1 a2 n2 c2 opc nc sc mc pc qc rc tc uc vc)) b5 #[.int .i64 wT,.int .i64 0,.string ⟨#[]⟩,.string ⟨#[]⟩,.slice none 0 0,.slice (some ⟨w5.heap.size,0,none⟩) 2 2]=w6 at *;clear hS;obtain⟨⟨k0,k1,k2⟩,j0,j1,j2⟩:=bx3 HS.out;go_wp2_with fail;go_roundw
 case rel=>
  obtain⟨F',wE⟩:∃F',F=F'+1:=⟨F-1,by have:=HB.out.1;have:=D1;omega⟩;subst wE;exact⟨jb,F',yK,_,wT,0,⟨#[]⟩,⟨#[]⟩,none,0,0,some ⟨w5.heap.size,0,none⟩,2,2,rfl,YM,BF,GM,zh ⟨by have:=HB.out;omega,by have:=HB.out;omega⟩⟩
 case measure=>
  have h1:=BF.out.at_.pos;have h2:=BF.out.at_.lt
  rw[h1,HQ.out];omega):p:=h
theorem VL{p:Prop}(h:p:=by
 refine hK.out _ _ trivial (fun hS=>?_);clear hK K;try simp only[zn]
 refine zr 3 rfl (fun K hK=>?_);try simp only[z1,z2,z3]
 refine xp_slice1 _ rfl rfl ?_;refine hK.out _ _ trivial (fun hS=>?_);clear hK K;try simp only[zn]
 have zZ:=zh (xZ.out.below (aA w4 (aN op n s m a1 n1 c1 a2 n2 c2)));have AI:=zh (zZ.out.put HW.out (y:=.mk 14 0 ns noB [] [x]) (y0:=.int .i64 14) (y1:=.int .i64 0) (y2:=.string ns) (y3:=.string ⟨#[]⟩) (y4:=.slice none 0 0) (y5:=.slice (some ⟨w4.heap.size,0,none⟩) 1 1) (by rw[aU];exact⟨_,_,rfl,tK,YO,aO.nil _ _ _ _,(aO.of_block (N:=fun b=>w.heap.size<b/\b≠b5) (css:=[[.int .i64 op,.int .i64 n,.string s,.string m,.slice a1 n1 c1,.slice a2 n2 c2]]) (bY w4 _) aAR rfl YR (fun i y c hy hc=>by match i,hy,hc with|0,hy,hc=>(cases hy;cases hc;exact aI _ _ _ _ _ _ (bU.later (aA w4 _)) xZ.out.enc)) rfl YO:aO 6 bN (fun b=>w.heap.size<b/\b≠b5) (w4.alloc (aN op n s m a1 n1 c1 a2 n2 c2)) (.slice (some ⟨w4.heap.size,0,none⟩) 1 1) [x])⟩));refine zq 4 (eK 14 0 ns ⟨#[]⟩ none 0 0 (some ⟨w4.heap.size,0,none⟩) 1 1) rfl ?_;try simp only[zn]
 refine zr 5 rfl (fun K hK=>?_);try simp only[z1,z2,z3]
 refine oS b5 zZ.out.loc _ _ rfl rfl rfl Y3 ?_;refine hK.out _ _ trivial (fun hS=>?_);clear hK K;try simp only[zn]
 refine wpAnyH_done YN ?_ _;clear zZ hS HE;have yP:=zh (xC.out.trans (congrArg (fun z=>PR.bnd z _) (PR.bnd_ok uH.out)));have MW:=zh (gU uH.out);have HQ:=zh HL.out.at_.pos;clear uH sA xC IN;generalize World.setRow (w4.alloc (aN op n s m a1 n1 c1 a2 n2 c2)) b5 #[.int .i64 14,.int .i64 0,.string ns,.string ⟨#[]⟩,.slice none 0 0,.slice (some ⟨w4.heap.size,0,none⟩) 1 1]=w5 at *;go_roundw
 case rel=>
  obtain⟨F',wE⟩:∃F',F=F'+1:=⟨F-1,Z2⟩;subst wE;refine⟨_,_,_,_,_,_,_,_,_,_,_,⟨j4,F',_,14,0,ns,⟨#[]⟩,none,0,0,some ⟨w4.heap.size,0,none⟩,1,1,AI,zh (yP.out.trans (congrArg (fun z=>PR.bnd z _) (if_pos rP).symm)),zh ⟨aAu,aAu⟩⟩,rfl⟩
 case measure=>
  have h1:=AI.out.at_.pos;have h2:=AI.out.at_.lt;have h3:=MW.out
  rw[h1,HQ.out];omega):p:=h
theorem VT{p:Prop}(h:p:=by
 obtain⟨⟨y0,y1,y2,y3,y4,y5⟩,h0,h1,h2,h3,h4,h5⟩:=bx6 HI.out.ex.loc;obtain⟨⟨r0,r1,r2,r3,r4,r5⟩,g0,g1,g2,g3,g4,g5⟩:=bx6 HI.out.ex.res;go_wp2_with fail;have hE:=iO HW.out HI.out.ex.off HI.out.ex.at_ HI.out.ex.enc (fun b hb=>hb.1);unfold iP at hE;refine bodyPost_ret (v:=eK op n s m a1 n1 c1 a2 n2 c2) (by simp[results,Tryz.results48,go_sem,r0,r1,r2,r3,r4,r5]) rfl ?_
 exact Ran.good HR.out ⟨⟨op,n,s,m,a1,n1,c1,a2,n2,c2,rfl,hE.1⟩,hE.2.1,HJ.out⟩ hE.2.2):p:=h
theorem X3{p:Prop}(h:p:=by
 go_wp2_with fail
 exact⟨rfl,Ran.bad' (xC.out.trans (PR.bnd_bad (PR.bnd_bad sI))) ((AA.out.below (aE _)).off.trans rY)⟩):p:=h
theorem exp_step(p:Prs)(f:Nat)(hE:iL p f)(hP:PrimOk p f)(form i:Nat)(w:World)(h:p.At w i)(hf:form<=9)(uK:p.l.length<f+1+i):Calls Tryz.prog 48 #[.pointer (some ⟨p.pb,0,none⟩),.int .i64 (form:Int)] w
  (Ran p.S w (bM p.l (f+1) form i) fun x j e w'=>qH w.heap.size x e w'/\p.At w' j/\i<=j):=by
 have HE:=zh hE;have HW:=zh h;have hlen:=h.len;have wQ:=h.blt;have rO:w.heap.size≠p.pb:=YM;have HR:Hid (bM p.l (f+1) form i=(cH p.l (bM p.l f) form i).bnd fun r j=>(if 7<=r.2 then lJ p.l (p.l.length+1) r.1 j else .ok (r.1,j)).bnd fun e k=>nH p.l (bM p.l f) form (p.l.length+1) r.2 e k):=zh (by rw[bM]);have R3:=zh (prefix_any p f hE hP (w.alloc (.cells bW 35)) form i (h.later (aA _ _)) hf YM);have tS:(w.alloc (.cells bW 35)).heap.size=w.heap.size+1:=YR;clear h hE hP;go_enter Tryz.func48,Tryz.ntmps48;go_wp2_with(go_at_call 134;refine R3.out.mono ?_;rintro e w2 (⟨x2,rV,rfl,rS⟩|⟨r,j2,rV,⟨⟨op,n,s,m,a1,n1,c1,a2,n2,c2,rfl,hex⟩,sS,GA⟩,rS⟩))
 ·exact⟨rfl,Ran.bad' (HR.out.trans (PR.bnd_bad rV)) ((Ba (aA _ _)).trans rS)⟩
 have sY:=rS.size;have HL0:Hid (ExL p w w2.heap.size r.1 [.int .i64 op,.int .i64 n,.string s,.string m,.slice a1 n1 c1,.slice a2 n2 c2] j2 (w2.alloc (aN op n s m a1 n1 c1 a2 n2 c2))):=zh ⟨((Ba (aA _ _)).trans rS).trans (Ba (aA _ _)),aH (aA _ _) (rS.heap rO (bY w _)),bY w2 _,aI _ _ _ _ _ _ (fun b hb hl=>⟨⟨by have hb:(w.alloc (.cells bW 35)).heap.size<=b:=hb;omega,YM⟩,fun o u hu=>aD (aA _ _) hu⟩) hex,YM,wQ,sS.later (aA _ _)⟩;have UF:=zh (HR.out.trans (PR.bnd_ok rV));have hr8:=prefix_own rV;clear hex sS rS rV R3 HR;obtain⟨x0,own⟩:=r;simp only at HL0 UF hr8;have hb5:w.heap.size<w2.heap.size:=YM;generalize w2.heap.size=b5 at *;go_loopw [16] (fun sl wr=>∃(q F:Nat)(x:Xp)(op n:Int)(s m:bA)(a1:Option Addr)(n1 c1:Nat)(a2:Option Addr)(n2 c2:Nat),Hid (ExL p w b5 x [.int .i64 op,.int .i64 n,.string s,.string m,.slice a1 n1 c1,.slice a2 n2 c2] q wr)/\Hid (bM p.l (f+1) form i=(if 7<=own then lJ p.l (F+1) x q else .ok (x,q)).bnd fun e k=>nH p.l (bM p.l f) form (p.l.length+1) own e k)/\Hid (p.l.length<=F+q/\i<=q)) (fun _ wr=>p.l.length-posOf wr p.pb)
 case atStart=>exact⟨j2,p.l.length,x0,op,n,s,m,a1,n1,c1,a2,n2,c2,HL0,UF,zh ⟨YM,GA⟩⟩
 case round=>
  obtain⟨q,F,x,op,n,s,m,a1,n1,c1,a2,n2,c2,HL,sA,HB⟩:=hrel;rename World=>wr
  by_cases rP:7<=own
  focus
   have tT:¬(own:Int)<7:=YM;have D3:(7:Int)<=(own:Int):=YM;rcases Bool.eq_false_or_eq_true (isP p.l q mH) with hqd|hqd
   focus
    ·skip;have hl:=isP_lt HL.out.at_ hqd;have xC:=zh (sA.out.trans (congrArg (fun z=>PR.bnd z _) ((if_pos rP).trans (dots_yes hqd))));go_wp2_with(go_at_call 120;refine(gM p wr q mH HL.out.at_ hqd).mono ?_;rintro e w3 ⟨rfl,uF,sB⟩);have AA:=zh (HL.out.next sB uF);clear uF sB;refine wp_region_held_drew (S:=(fun _=>True)) YN trivial fun hS=>?_;refine zq 0 (.pointer (some ⟨p.pb,0,none⟩)) rfl ?_;(try simp only[zn]);refine wpAnyH_ready (rs:=[1,2]) YN YR ?_;refine AllReadyH.cons rfl (fun K hK=>?_) (AllReadyH.cons rfl (fun K hK=>?_) AllReadyH.nil)
     ·rw[if_pos YN];(try simp only[z1,z2,z3]);go_simp;refine(gJ p w3.drew (q+1) (AA.out.below (aE _)).at_).mono ?_;rintro e w4 (⟨x4,sI,rfl,rY⟩|⟨ns,j4,sI,⟨rfl,uA,tK⟩,rY⟩)
      ·exact X3
      have xZ:=zh ((AA.out.below (aE _)).next rY uA);have uH:=zh sI;have IN:=zh rY;clear uA rY sI;have NL:b5<w4.heap.size:=(Array.getElem?_eq_some_iff.1 xZ.out.loc).1;have SJ:=xZ.out.b5;refine hK.out _ _ trivial (fun hS=>?_);clear hK K;(try simp only[zn]);refine zr 2 rfl (fun K hK=>?_);(try simp only[z1,z2,z3]);refine xp_load b5 xZ.out.loc _ rfl rfl ?_;exact VL
     rw[if_pos YN];(try simp only[z1,z2,z3]);refine xp_load b5 (AA.out.below (aE _)).loc _ rfl rfl ?_;refine hK.out _ _ trivial (fun hS=>?_);clear hK K;(try simp only[zn]);refine wpAnyH_ready (rs:=[1,3]) YN YR ?_;refine AllReadyH.cons rfl (fun K hK=>?_) (AllReadyH.cons rfl (fun K hK=>?_) AllReadyH.nil)
     ·rw[if_pos YN];(try simp only[z1,z2,z3]);go_simp;refine(gJ p w3.drew (q+1) (AA.out.below (aE _)).at_).mono ?_;rintro e w4 (⟨x4,sI,rfl,rY⟩|⟨ns,j4,sI,⟨rfl,uA,tK⟩,rY⟩)
      ·exact X3
      have xZ:=zh ((AA.out.below (aE _)).next rY uA);have uH:=zh sI;have IN:=zh rY;clear uA rY sI;have NL:b5<w4.heap.size:=(Array.getElem?_eq_some_iff.1 xZ.out.loc).1;have SJ:=xZ.out.b5;exact VL
     rw[if_pos YN];(try simp only[z1,z2,z3]);refine xp_slice1 _ rfl rfl ?_;refine hK.out _ _ trivial (fun hS=>?_);clear hK K;(try simp only[zn]);refine zr 1 rfl (fun K hK=>?_);(try simp only[z1,z2,z3]);go_simp;refine(gJ p (w3.drew.alloc (aN op n s m a1 n1 c1 a2 n2 c2)) (q+1) (AA.out.below (aC (aE w3) (aA w3.drew (aN op n s m a1 n1 c1 a2 n2 c2)))).at_).mono ?_;rintro e w4 (⟨x4,sI,rfl,rY⟩|⟨ns,j4,sI,⟨rfl,uA,tK⟩,rY⟩)
     ·go_wp2_with fail;exact⟨rfl,Ran.bad' (xC.out.trans (PR.bnd_bad (PR.bnd_bad sI))) ((AA.out.below (aC (aE w3) (aA w3.drew (aN op n s m a1 n1 c1 a2 n2 c2)))).off.trans rY)⟩
     have xZ:=zh ((AA.out.below (aC (aE w3) (aA w3.drew (aN op n s m a1 n1 c1 a2 n2 c2)))).next rY uA);have uH:=zh sI;have IN:=zh rY;clear uA rY sI;have hrow4:=IN.out.heap (show w3.drew.heap.size≠p.pb from fun e=>by have:=AA.out.at_.blt;have e:w3.heap.size=p.pb:=e;omega) (bY w3.drew (aN op n s m a1 n1 c1 a2 n2 c2));have hdz:w3.drew.heap.size=w3.heap.size:=rfl;have NL:b5<w3.heap.size:=(Array.getElem?_eq_some_iff.1 AA.out.loc).1;have SJ:=xZ.out.b5;refine hK.out _ _ trivial (fun hS=>?_);clear hK K;(try simp only[zn]);have zZ:=zh (xZ.out);have AI:=zh (zZ.out.put HW.out (y:=.mk 14 0 ns noB [] [x]) (y0:=.int .i64 14) (y1:=.int .i64 0) (y2:=.string ns) (y3:=.string ⟨#[]⟩) (y4:=.slice none 0 0) (y5:=.slice (some ⟨w3.drew.heap.size,0,none⟩) 1 1) (by rw[aU];exact⟨_,_,rfl,tK,YO,aO.nil _ _ _ _,(aO.of_block (N:=fun b=>w.heap.size<b/\b≠b5) (css:=[[.int .i64 op,.int .i64 n,.string s,.string m,.slice a1 n1 c1,.slice a2 n2 c2]]) (hrow4) aAR rfl YR (fun i y c hy hc=>by match i,hy,hc with|0,hy,hc=>(cases hy;cases hc;exact xZ.out.enc)) rfl YO:aO 6 bN (fun b=>w.heap.size<b/\b≠b5) w4 (.slice (some ⟨w3.drew.heap.size,0,none⟩) 1 1) [x])⟩));refine zq 4 (eK 14 0 ns ⟨#[]⟩ none 0 0 (some ⟨w3.drew.heap.size,0,none⟩) 1 1) rfl ?_;(try simp only[zn]);refine zr 5 rfl (fun K hK=>?_);(try simp only[z1,z2,z3]);refine oS b5 zZ.out.loc _ _ rfl rfl rfl Y3 ?_;refine hK.out _ _ trivial (fun hS=>?_);clear hK K;(try simp only[zn]);refine wpAnyH_done YN ?_ _;clear zZ hS HE;have yP:=zh (xC.out.trans (congrArg (fun z=>PR.bnd z _) (PR.bnd_ok uH.out)));have MW:=zh (gU uH.out);have HQ:=zh HL.out.at_.pos;clear uH sA xC IN;generalize World.setRow w4 b5 #[.int .i64 14,.int .i64 0,.string ns,.string ⟨#[]⟩,.slice none 0 0,.slice (some ⟨w3.drew.heap.size,0,none⟩) 1 1]=w5 at *;go_roundw
     case rel=>
      obtain⟨F',wE⟩:∃F',F=F'+1:=⟨F-1,Z2⟩;subst wE;refine⟨_,_,_,_,_,_,_,_,_,_,_,⟨j4,F',_,14,0,ns,⟨#[]⟩,none,0,0,some ⟨w3.drew.heap.size,0,none⟩,1,1,AI,zh (yP.out.trans (congrArg (fun z=>PR.bnd z _) (if_pos rP).symm)),zh ⟨aAu,aAu⟩⟩,rfl⟩
     case measure=>
      have h1:=AI.out.at_.pos;have h2:=AI.out.at_.lt;have h3:=MW.out;rw[h1,HQ.out];omega
   have UE:=zh (sA.out.trans (congrArg (fun z=>PR.bnd z _) ((if_pos rP).trans (dots_no hqd))));go_wp2_with(go_at_call 120;refine(bG p wr q mH HL.out.at_ hqd).mono ?_;rintro e w3 ⟨rfl,uF,sB⟩;have HLE:=zh (HL.out.next sB uF);clear uF sB)
  rotate_left
  focus
   have tT:(own:Int)<7:=YM;have UE:=zh (sA.out.trans (congrArg (fun z=>PR.bnd z _) (if_neg rP)));have HLE:=HL;go_wp2_with fail
  all_goals
   have HSpO:Hid (bM p.l (f+1) form i=nH p.l (bM p.l f) form (p.l.length+1) own x q):=zh UE.out;clear HL sA UE HL0 UF;(go_loopw [6] (fun sl wr=>∃(q F own:Nat)(x:Xp)(op n:Int)(s m:bA)(a1:Option Addr)(n1 c1:Nat)(a2:Option Addr)(n2 c2:Nat),sl=.int .i64 (own:Int)/\own<=8/\Hid (ExL p w b5 x [.int .i64 op,.int .i64 n,.string s,.string m,.slice a1 n1 c1,.slice a2 n2 c2] q wr)/\Hid (bM p.l (f+1) form i=nH p.l (bM p.l f) form (F+1) own x q)/\Hid (p.l.length<=F+q/\i<=q)) (fun _ wr=>p.l.length-posOf wr p.pb));case atStart=>exact⟨q,p.l.length,own,x,op,n,s,m,a1,n1,c1,a2,n2,c2,rfl,hr8,HLE,HSpO,zh ⟨YM,HB.out.2⟩⟩
   case round=>
    clear HLE HSpO HB rP tT hr8;obtain⟨q,F,own,x,op,n,s,m,a1,n1,c1,a2,n2,c2,rfl,hr8,HL,sA,HB⟩:=hrel;(rename World=>wr);have HI0:=zh HL.out.search;have HLq:=zh HL.out.at_.pos;have FE:=(Array.getElem?_eq_some_iff.1 HL.out.loc).1;have hb5w:=HL.out.b5;go_wp2_with(go_at_call 135;refine(operators_any _).mono ?_;rintro e w1 ⟨rfl,rfl⟩);(go_loopw [29] (fun sl w2=>∃k:Nat,k<=7/\sl=.int .i64 (k:Int)/\Hid (OpI p w b5 x [.int .i64 op,.int .i64 n,.string s,.string m,.slice a1 n1 c1,.slice a2 n2 c2] q wr.heap.size (opSeen p.l q k) w2)) (fun sl _=>7-(intOf sl).toNat));case atStart=>exact⟨0,YM,rfl,HI0⟩
    case round=>
     obtain⟨k,hk7,rfl,HI⟩:=hrel;(rename World=>w2);by_cases rU:k<7
     ··skip;obtain⟨⟨t,KK,fm⟩,hk⟩:∃o,eW[k]? =some o:=⟨_,List.getElem?_eq_getElem (show k<eW.length from rU)⟩;obtain⟨RH,DP,tE⟩:=opers_at hk;have c0:=(bx HI.out.oc (k*3) (by simpa using RH)).1;have c1:=(bx HI.out.oc (k*3+1) (by simpa using DP)).1;have c2:=(bx HI.out.oc (k*3+2) (by simpa using tE)).1;clear RH DP tE;have FI:=zh (HI.out.below (aA w2 (qW t KK (fm:Int))));have HK:=zh hk
       cases hqt:isP p.l q t with
       |true=>
        go_wp2_with(go_at_call 112;refine(gZ p _ q t FI.out.ex.at_).mono ?_;rintro e w3 ⟨rfl,tI⟩;rw[hqt];have U5:=zh (FI.out.below tI);obtain⟨⟨d0,d1,d2⟩,-⟩:=bx3 (aH tI (bY w2 (qW t KK (fm:Int))));obtain⟨⟨k0,k1,k2⟩,j0,j1,j2⟩:=bx3 U5.out.xc);have U4:=zh (U5.out.put HW.out (t:=t) (op:=KK) (fm:=fm));clear d0 d1 d2 k0 k1 k2 j0 j1 j2;go_roundw;(case rel=>exact⟨k+1,YM,YZ,by rw[opSeen_yes HK.out hqt];exact U4⟩);case measure=>simp[intOf];omega
       |false=>
        go_wp2_with(go_at_call 112;refine(gZ p _ q t FI.out.ex.at_).mono ?_;rintro e w3 ⟨rfl,tI⟩;rw[hqt];have U5:=zh (FI.out.below tI));go_roundw;(case rel=>exact⟨k+1,YM,YZ,by rw[opSeen_no HK.out hqt];exact U5⟩);case measure=>simp[intOf];omega
     have hk:k=7:=YM;subst hk
     cases tN:kA p.l q with
     |none=>
      (have DY:opSeen p.l q 7=(⟨#[]⟩,0,0):=by rw[opSeen_all,tN];rfl);rw[DY] at HI;have HR:=zh (sA.out.trans (ops_none tN));have HJ:=zh (show i<=q from HB.out.2);clear DY tN sA HB HI0 HLq HE;obtain⟨⟨k0,k1,k2⟩,j0,j1,j2⟩:=bx3 HI.out.xc;exact VT
     |some o=>
      obtain⟨t2,wT,yK⟩:=o;(have DY:opSeen p.l q 7=(t2,wT,yK):=by rw[opSeen_all,tN];rfl);rw[DY] at HI;obtain⟨htn,hfm6,htq⟩:=operAt_ok tN;(have hte:(t2.toList==[])=false:=by rw[beq_eq_false_iff_ne];intro e;exact htn (bD e));have HJ:=zh (show i<=q from HB.out.2);clear DY HI0;obtain⟨⟨k0,k1,k2⟩,j0,j1,j2⟩:=bx3 HI.out.xc;by_cases e1:yK<form
      ·have HR:=zh (sA.out.trans (ops_stop tN (.inl e1)));clear tN sA HB HE;have e1':(yK:Int)<(form:Int):=YM;exact VT
      have e1':¬(yK:Int)<(form:Int):=YM;have e1'':(form:Int)<=(yK:Int):=YM;by_cases e2:own<yK
      ·have HR:=zh (sA.out.trans (ops_stop tN (.inr (.inl e2))));clear tN sA HB HE;have e2':(own:Int)<(yK:Int):=YM;exact VT
      have e2':¬(own:Int)<(yK:Int):=YM;have e2'':(yK:Int)<=(own:Int):=YM;by_cases e3:own=4
      ·(have e3':((own:Int)==4)=true:=by rw[beq_iff_eq];omega);by_cases e4:yK=4
       ·(have e4':((yK:Int)==4)=true:=by rw[beq_iff_eq];omega);have HR:=zh (sA.out.trans (ops_stop tN (.inr (.inr ⟨e3,e4⟩))));clear tN sA HB HE e3 e4;exact VT
       have e4':((yK:Int)==4)=false:=YV;have yP:=zh (sA.out.trans (ops_on tN (fun h=>by rcases h with h|h|h<;>omega)));clear e3 e4;exact VF
      have e3':((own:Int)==4)=false:=YV;have yP:=zh (sA.out.trans (ops_on tN (fun h=>by rcases h with h|h|h<;>omega)));exact VF
end Go.Proofs.YtiionicikdnnpaaGreatDoor
namespace Go.Proofs.YtiionicikdnnpaaGreatDoor
theorem exp_ok(p:Prs):∀f,iL p f
 |0=>fun form i w h hf uK=>by have:=h.lt;omega
 |f+1=>fun form i w h hf uK=>exp_step p f (exp_ok p f) (primary_ok p f (exp_ok p f) (record_any p f (exp_ok p f))) form i w h hf uK
theorem exp_all(p:Prs):ExpAll p:=ExpAll.of (exp_ok p)
end Go.Proofs.YtiionicikdnnpaaGreatDoor
namespace Go.Proofs.YtiionicikdnnpaaGreatDoor
open Go.RowKit
def encA{α:Type}(o:Option Nat)(enc:(Nat->Prop)->World->α->List Value->Prop)(N:Nat->Prop)(w:World)(x:α)(cs:List Value):Prop:=enc (fun b=>N b/\o≠some b) w x cs
theorem encA_ok{α:Type}(o:Option Nat){enc:(Nat->Prop)->World->α->List Value->Prop}(he:fL enc):fL (encA o enc):=fun _ _ _ _ _ _ hm h=>he _ _ _ _ _ _ (fun b hb hl=>⟨⟨(hm b hb.1 hl).1,hb.2⟩,(hm b hb.1 hl).2⟩) h
structure Pair {α β:Type} (k1:Nat) (T1:TypeId) (enc1:(Nat->Prop)->World->α->List Value->Prop) (k2:Nat) (T2:TypeId) (enc2:(Nat->Prop)->World->β->List Value->Prop) (B:Nat) (l1:List α) (c1:List (List Value)) (v1:Value) (l2:List β) (c2:List (List Value)) (v2:Value) (w:World):Prop where
 a:Gro k1 T1 (encA v2.ownBlock enc1) B l1 c1 v1 w
 b:Gro k2 T2 (encA v1.ownBlock enc2) B l2 c2 v2 w
 d:∀b,v1.ownBlock=some b->v2.ownBlock≠some b
section
variable {α β:Type} {k1 k2:Nat} {T1 T2:TypeId} {enc1:(Nat->Prop)->World->α->List Value->Prop} {enc2:(Nat->Prop)->World->β->List Value->Prop} {B:Nat} {l1:List α} {l2:List β} {c1 c2:List (List Value)} {v1 v2:Value} {w w' w9 sV:World}
theorem Pair.swap(h:Pair k1 T1 enc1 k2 T2 enc2 B l1 c1 v1 l2 c2 v2 w):Pair k2 T2 enc2 k1 T1 enc1 B l2 c2 v2 l1 c1 v1 w:=⟨h.b,h.a,fun b hb e=>h.d b e hb⟩
theorem Pair.stays(ED:fL enc1)(AP:fL enc2)(h:Pair k1 T1 enc1 k2 T2 enc2 B l1 c1 v1 l2 c2 v2 w)(hs:dF B w w'):Pair k1 T1 enc1 k2 T2 enc2 B l1 c1 v1 l2 c2 v2 w':=⟨h.a.stays (encA_ok _ ED) hs,h.b.stays (encA_ok _ AP) hs,h.d⟩
theorem Pair.add{x:α}{news:List Value}{g cap n1:Nat}(ED:fL enc1)(AP:fL enc2)(h:Pair k1 T1 enc1 k2 T2 enc2 B l1 c1 v1 l2 c2 v2 w9)(hx:encA v2.ownBlock enc1 (mO B v1) w9 x news)(hk:news.length=k1)
  (rP:sV.ownsRow B T1 k1 (.slice (some ⟨g,0,none⟩) n1 cap) n1 (c1.flatten++news)) (hn:n1=l1.length+1) (rN:w9.grownBy sV v1.ownBlock) (sD:v1.ownBlock=some g\/g=w9.heap.size):
  Pair k1 T1 enc1 k2 T2 enc2 B (l1++[x]) (c1++[news]) (.slice (some ⟨g,0,none⟩) n1 cap) l2 c2 v2 sV:=by
 subst hn;have K9:=h.b.lt
 have hg:∀b,b<w9.heap.size->v1.ownBlock≠some b->b≠g:=fun b hb hn e=>by
  subst e;rcases sD with h1|h1
  ·exact hn h1
  omega
 refine⟨h.a.added (encA_ok _ ED) hx hk rP rN sD,?_,fun b hb e=>?_⟩
 ·refine h.b.change rN.size (fun b hb=>rN.block b (K9 b hb).2 fun e=>h.d b e.symm hb) (fun y c hy=>?_);refine AP _ _ _ _ _ _ (fun b hb hl=>⟨⟨hb.1,fun e=>?_⟩,fun o u hu=>rN.cell hu (fun e=>hb.2 e.symm)⟩) hy;have e:g=b:=aAD;exact hg b hl hb.2 e.symm
 have rQ:g=b:=aAA;subst rQ;rcases sD with h1|h1
 ·exact h.d g h1 e
 have:=(K9 g e).2;omega
theorem Pair.row(ED:fL enc1)(h:Pair k1 T1 enc1 k2 T2 enc2 B l1 c1 v1 l2 c2 v2 w):aO k1 enc1 (bQ B) w v1 l1:=by
 obtain⟨a,c,h1,h2,h3,h4⟩:=h.a.row (encA_ok _ ED);refine⟨a,c,h1,h2,h3,fun rO=>?_⟩;obtain⟨b,o,e1,e2,e3⟩:=h4 rO;refine⟨b,o,e1,e2,fun i x hx=>?_⟩;obtain⟨cs,f1,f2,f3⟩:=e3 i x hx;exact⟨cs,ED.wide f1 (fun b hb _=>hb.1),f2,f3⟩
end
def fR(B C:Nat):Nat->Prop:=fun b=>B<=b/\b<C
theorem aO.betw{α:Type}{k:Nat}{enc:(Nat->Prop)->World->α->List Value->Prop}(he:fL enc)(hk:0<k){B:Nat}{w:World}{v:Value}{l:List α}(h:aO k enc (bQ B) w v l):aO k enc (fR B w.heap.size) w v l:=h.moves he (fun _ hb hl=>⟨⟨hb,hl⟩,fun _ _ h=>h⟩) hk
section
variable {T:TypeId} {zero cells:Array Value} {p:Prs} {O S:Nat->Prop} {W w8 sV:World} {b5 B q i0:Nat} {E:World->Prop}
theorem Mk.above(h:Mk T zero p O S W b5 cells E q w8)(hW:p.At W i0)(hb:b5<B)(ho:Off (fun b=>B<=b) w8 sV)(hE:eS (fun b=>B<=b) E):Mk T zero p O S W b5 cells E q sV:=by
 have h1:=h.hb5;exact⟨Off.fresh ((h.off.or _).trans (ho.mono fun b hb=>.inr aA1)) (Nat.le_refl _),ho.heap YM h.res,ho.heap YM h.loc,hW.above h.at_ (ho.mono fun b hb=>aA1),hE _ _ ho h.enc,h.st,h1,h.sO,h.s5,h.sR,h.sP⟩
theorem Mk.drew(h:Mk T zero p O S W b5 cells E q w8):Mk T zero p O S W b5 cells E q w8.drew:=h.below (aE _)
theorem Mk.wide{S':Nat->Prop}(h:Mk T zero p O S W b5 cells (fun _=>True) q w8)(h1:∀b,S' b->O b\/W.heap.size<b)(h2:¬S' b5)(h3:¬S' W.heap.size)(h4:S' p.pb):Mk T zero p O S' W b5 cells (fun _=>True) q w8:=
 ⟨h.off,h.res,h.loc,h.at_,trivial,eS.true,h.hb5,h1,h2,h3,h4⟩
end
def encM(N:Nat->Prop)(w:World)(m:Mdl)(cs:List Value):Prop:=∃vu vv vi vf vo vw vb,cs=[.string m.name,vu,vv,vi,vf,.bool m.moves,vo,vw,vb]/\m.name.size<=8000/\
 aO 1 dD N w vu m.uses/\aO 3 gS N w vv m.vars/\aO 6 bN N w vi m.init/\aO 12 mK N w vf m.funcs/\aO 3 gS N w vo m.old/\aO 6 bN N w vw m.forward/\aO 6 bN N w vb m.back
theorem mJ:fL encM:=fun _ _ _ _ f cs hm h=>by
 obtain⟨vu,vv,vi,vf,vo,vw,vb,h1,h2,h3,h4,h5,h6,h7,h8,h9⟩:=h;exact⟨vu,vv,vi,vf,vo,vw,vb,h1,h2,h3.moves aV hm YO,h4.moves aZ hm YO,h5.moves aI hm YO,h6.moves bK hm YO,h7.moves aZ hm YO,h8.moves aI hm YO,h9.moves aI hm YO⟩
theorem bx9{w:World}{b:Nat}{x0 x1 x2 x3 x4 x5 x6 x7 x8:Value}{t:TypeId}(h:w.heap[b]? =some (.cells #[x0,x1,x2,x3,x4,x5,x6,x7,x8] t)):
  (w.cell? ⟨b,0,none⟩=some x0/\w.cell? ⟨b,1,none⟩=some x1/\w.cell? ⟨b,2,none⟩=some x2/\w.cell? ⟨b,3,none⟩=some x3/\w.cell? ⟨b,4,none⟩=some x4/\w.cell? ⟨b,5,none⟩=some x5/\w.cell? ⟨b,6,none⟩=some x6/\w.cell? ⟨b,7,none⟩=some x7/\w.cell? ⟨b,8,none⟩=some x8)/\
  (w.frozen? ⟨b,0,none⟩=false/\w.frozen? ⟨b,1,none⟩=false/\w.frozen? ⟨b,2,none⟩=false/\w.frozen? ⟨b,3,none⟩=false/\w.frozen? ⟨b,4,none⟩=false/\w.frozen? ⟨b,5,none⟩=false/\w.frozen? ⟨b,6,none⟩=false/\w.frozen? ⟨b,7,none⟩=false/\w.frozen? ⟨b,8,none⟩=false):=
 ⟨⟨(bx h 0 rfl).1,(bx h 1 rfl).1,(bx h 2 rfl).1,(bx h 3 rfl).1,(bx h 4 rfl).1,(bx h 5 rfl).1,(bx h 6 rfl).1,(bx h 7 rfl).1,(bx h 8 rfl).1⟩,(bx h 0 (u:=x0) rfl).2,(bx h 1 (u:=x1) rfl).2,(bx h 2 (u:=x2) rfl).2,(bx h 3 (u:=x3) rfl).2,(bx h 4 (u:=x4) rfl).2,(bx h 5 (u:=x5) rfl).2,(bx h 6 (u:=x6) rfl).2,(bx h 7 (u:=x7) rfl).2,(bx h 8 (u:=x8) rfl).2⟩
abbrev eT:Array Value:=#[.string ⟨#[]⟩,.slice none 0 0,.slice none 0 0,.slice none 0 0,.slice none 0 0,.bool false,.slice none 0 0,.slice none 0 0,.slice none 0 0]
def set9(w:World)(b:Nat)(x0 x1 x2 x3 x4 x5 x6 x7 x8:Value):World:=
 ((((((((w.setCell ⟨b,0,none⟩ x0).setCell ⟨b,1,none⟩ x1).setCell ⟨b,2,none⟩ x2).setCell ⟨b,3,none⟩ x3).setCell ⟨b,4,none⟩ x4).setCell ⟨b,5,none⟩ x5).setCell ⟨b,6,none⟩ x6).setCell ⟨b,7,none⟩ x7).setCell ⟨b,8,none⟩ x8
theorem qP(w:World)(b:Nat)(x0 x1 x2 x3 x4 x5 x6 x7 x8:Value):Off (fun k=>k=b) w (set9 w b x0 x1 x2 x3 x4 x5 x6 x7 x8):=by
 unfold set9;exact(Off.refl _ _).one.one.one.one.one.one.one.one.one
section
variable {l:List Tok} {F q:Nat}
theorem uses_stop{out:List bA}(h:isP l q kUse=false):fV l (F+1) out q=.ok (out,q):=by rw[fV,if_neg (by rw[h];simp)]
theorem uses_step{out:List bA}(h:isP l q kUse=true):fV l (F+1) out q=(fD l q out.length 12).bnd fun _ _=>(gQ l (q+1) (fun s=>out.any fun x=>decide (x=s))).bnd fun s j=>(eB l j dP).bnd fun _ k=>fV l F (out++[s]) k:=by rw[fV,if_pos h]
theorem vars_stop{vs:List Fld}{es:List Xp}(h:isP l q pK=false):gH l (F+1) vs es q=.ok ((vs,es),q):=by rw[gH,if_neg (by rw[h];simp)]
theorem vars_step{vs:List Fld}{es:List Xp}(h:isP l q pK=true):gH l (F+1) vs es q=(fD l q vs.length 8).bnd fun _ _=>(gQ l (q+1) (fun s=>vs.any fun x=>decide (x.1=s))).bnd fun s j=>(jV l j).bnd fun t j2=>(lX l j2 (decide (bI t<=4)) kEq).bnd fun _ j3=>(kI l j3 dP).bnd fun e k=>gH l F (vs++[(s,t)]) (es++[e]) k:=by rw[gH,if_pos h]
theorem funcs_stop{fs:List Fnc}(h:(isP l q lE||isP l q kFn)=false):eV l (F+1) fs q=.ok (fs,q):=by rw[eV,if_neg (by rw[h];simp)]
theorem funcs_step{fs:List Fnc}(h:(isP l q lE||isP l q kFn)=true):eV l (F+1) fs q=(fD l q fs.length 30).bnd fun _ _=>(jY l q (fun s=>fs.any fun x=>decide (x.name=s))).bnd fun x k=>eV l F (fs++[x]) k:=by rw[eV,if_pos h]
theorem any_pushS(l:List bA)(a:bA):(fC fun z=>decide (z=a)||l.any fun x=>decide (x=z))=fC fun s=>(l++[a]).any fun x=>decide (x=s):=by
 exact WV
theorem any_pushF(l:List Fnc)(f:Fnc):(fC fun z=>decide (z=f.name)||l.any fun x=>decide (x.name=z))=fC fun s=>(l++[f]).any fun x=>decide (x.name=s):=by
 refine congrArg fC (funext fun z=>?_);simp only[List.any_append,List.any_cons,List.any_nil,Bool.or_false];rw[Bool.or_comm];by_cases h:f.name=z
 ·subst h;rfl
 have h2:¬z=f.name:=fun e=>h e.symm;simp only[decide_eq_false h,decide_eq_false h2]
end
structure jI (w:World) (ka na:Nat) (fa:bA->Bool) (kb nb:Nat) (fb:bA->Bool) (kc nc:Nat) (fc:bA->Bool):Prop where
 a:bV kG fZ w ka na (fC fa)
 b:bV kG fZ w kb nb (fC fb)
 c:bV kG fZ w kc nc (fC fc)
section
variable {w w':World} {ka na kb nb kc nc na' nb' nc':Nat} {fa fb fc fa' fb' fc':bA->Bool} {S:Nat->Prop}
theorem jI.off(h:jI w ka na fa kb nb fb kc nc fc)(ho:Off S w w')(hS:¬S ka/\¬S kb/\¬S kc):jI w' ka na fa kb nb fb kc nc fc:=
 ⟨h.a.of_block (ho.block _ h.a.lt hS.1),h.b.of_block (ho.block _ h.b.lt hS.2.1),h.c.of_block (ho.block _ h.c.lt hS.2.2)⟩
theorem jI.later(h:jI w ka na fa kb nb fb kc nc fc)(hb:Below w.heap.size w w'):jI w' ka na fa kb nb fb kc nc fc:=⟨h.a.later hb,h.b.later hb,h.c.later hb⟩
theorem jI.putA(h:jI w ka na fa kb nb fb kc nc fc)(ho:Off S w w')(hS:¬S kb/\¬S kc)(hm:bV kG fZ w' ka na' (fC fa')):jI w' ka na' fa' kb nb fb kc nc fc:=⟨hm,h.b.of_block (ho.block _ h.b.lt hS.1),h.c.of_block (ho.block _ h.c.lt hS.2)⟩
theorem jI.putB(h:jI w ka na fa kb nb fb kc nc fc)(ho:Off S w w')(hS:¬S ka/\¬S kc)(hm:bV kG fZ w' kb nb' (fC fb')):jI w' ka na fa kb nb' fb' kc nc fc:=⟨h.a.of_block (ho.block _ h.a.lt hS.1),hm,h.c.of_block (ho.block _ h.c.lt hS.2)⟩
theorem jI.putC(h:jI w ka na fa kb nb fb kc nc fc)(ho:Off S w w')(hS:¬S ka/\¬S kb)(hm:bV kG fZ w' kc nc' (fC fc')):jI w' ka na fa kb nb fb kc nc' fc':=⟨h.a.of_block (ho.block _ h.a.lt hS.1),h.b.of_block (ho.block _ h.b.lt hS.2),hm⟩
end
theorem rD{α:Type}{k:Nat}{T T0 Te:TypeId}{zero cells cells':Array Value}{p:Prs}{O S:Nat->Prop}{W tH vS:World}{b5 B q i0 g cap n1 j:Nat}{E:World->Prop}{enc:(Nat->Prop)->World->α->List Value->Prop}{l:List α}{css:List (List Value)}{v:Value}{x:α}{news:List Value}
  (hS:Mk T zero p O S W b5 cells E q tH) (hW:p.At W i0) (hb:b5<B) (hG:Gro k Te enc B l css v tH) (he:fL enc) (hx:enc (mO B v) tH x news) (hk:news.length=k) (hE:eS (fun b=>B<=b) E)
  (rP:vS.ownsRow B Te k (.slice (some ⟨g,0,none⟩) n1 cap) n1 (css.flatten++news)) (hn:n1=l.length+1) (rN:(tH.alloc (.cells news.toArray T0)).grownBy vS v.ownBlock) (sD:v.ownBlock=some g\/g=tH.heap.size+1) (hc:cells.setIfInBounds j (.slice (some ⟨g,0,none⟩) n1 cap)=cells'):
  vS.heap[b5]? =some (.cells cells T)/\Mk T zero p O S W b5 cells' E q (vS.setCell ⟨b5,j,none⟩ (.slice (some ⟨g,0,none⟩) n1 cap))/\Gro k Te enc B (l++[x]) (css++[news]) (.slice (some ⟨g,0,none⟩) n1 cap) (vS.setCell ⟨b5,j,none⟩ (.slice (some ⟨g,0,none⟩) n1 cap))/\
  Off (fun b=>B<=b\/b=b5) tH (vS.setCell ⟨b5,j,none⟩ (.slice (some ⟨g,0,none⟩) n1 cap)):=by
 subst hn;have vK:=aA tH (.cells news.toArray T0);have hG9:=hG.later he vK;have rU:=hG9.lt;have hz:(tH.alloc (.cells news.toArray T0)).heap.size=tH.heap.size+1:=YR;have oG:Off (fun b=>B<=b) tH vS:=(Ba vK).trans ⟨rN.os,rN.tape,rN.output,rN.size,fun b hb hn=>rN.block b hb (fun e=>hn (rU b e.symm).1)⟩;have zW:=hG9.added he (he _ _ _ _ _ _ (bU.later vK) hx) hk rP rN (by rw[hz];exact sD);have GD:=hS.above hW hb oG hE;have FB:Off (fun b=>b=b5) vS (vS.setCell ⟨b5,j,none⟩ (.slice (some ⟨g,0,none⟩) (l.length+1) cap)):=Off.setCell (S:=fun b=>b=b5) vS rfl;exact⟨GD.loc,GD.put hW FB (by rw[aT GD.loc,hc]),zW.stays he (dF.of_off FB fun b rQ=>.inl aA2),(oG.mono fun b hb=>.inl hb).trans (FB.mono fun b hb=>.inr hb)⟩
theorem grow_pair{α β:Type}{k k2:Nat}{T T0 Te Te2:TypeId}{zero cells cells':Array Value}{p:Prs}{O S:Nat->Prop}{W tH vS:World}{b5 B q i0 g cap n1 j:Nat}{E:World->Prop}{enc:(Nat->Prop)->World->α->List Value->Prop}{enc2:(Nat->Prop)->World->β->List Value->Prop}{l:List α}{l2:List β}{css css2:List (List Value)}{v v2:Value}{x:α}{news:List Value}
  (hS:Mk T zero p O S W b5 cells E q tH) (hW:p.At W i0) (hb:b5<B) (hP:Pair k Te enc k2 Te2 enc2 B l css v l2 css2 v2 tH) (he:fL enc) (AP:fL enc2) (hx:encA v2.ownBlock enc (mO B v) tH x news) (hk:news.length=k) (hE:eS (fun b=>B<=b) E)
  (rP:vS.ownsRow B Te k (.slice (some ⟨g,0,none⟩) n1 cap) n1 (css.flatten++news)) (hn:n1=l.length+1) (rN:(tH.alloc (.cells news.toArray T0)).grownBy vS v.ownBlock) (sD:v.ownBlock=some g\/g=tH.heap.size+1) (hc:cells.setIfInBounds j (.slice (some ⟨g,0,none⟩) n1 cap)=cells'):
  vS.heap[b5]? =some (.cells cells T)/\Mk T zero p O S W b5 cells' E q (vS.setCell ⟨b5,j,none⟩ (.slice (some ⟨g,0,none⟩) n1 cap))/\Pair k Te enc k2 Te2 enc2 B (l++[x]) (css++[news]) (.slice (some ⟨g,0,none⟩) n1 cap) l2 css2 v2 (vS.setCell ⟨b5,j,none⟩ (.slice (some ⟨g,0,none⟩) n1 cap))/\
  Off (fun b=>B<=b\/b=b5) tH (vS.setCell ⟨b5,j,none⟩ (.slice (some ⟨g,0,none⟩) n1 cap)):=by
 have vK:=aA tH (.cells news.toArray T0);have hP9:=hP.stays he AP (.of_below vK);have rU:=hP9.a.lt;have hz:(tH.alloc (.cells news.toArray T0)).heap.size=tH.heap.size+1:=YR;have oG:Off (fun b=>B<=b) tH vS:=(Ba vK).trans ⟨rN.os,rN.tape,rN.output,rN.size,fun b hb hn=>rN.block b hb (fun e=>hn (rU b e.symm).1)⟩;have hP13:=hP9.add he AP (encA_ok _ he _ _ _ _ _ _ (bU.later vK) hx) hk rP hn rN (by rw[hz];exact sD);have GD:=hS.above hW hb oG hE;have FB:Off (fun b=>b=b5) vS (vS.setCell ⟨b5,j,none⟩ (.slice (some ⟨g,0,none⟩) n1 cap)):=Off.setCell (S:=fun b=>b=b5) vS rfl;exact⟨GD.loc,GD.put hW FB (by rw[aT GD.loc,hc]),hP13.stays he AP (dF.of_off FB fun b rQ=>.inl aA2),(oG.mono fun b hb=>.inl hb).trans (FB.mono fun b hb=>.inr hb)⟩
theorem fresh_off{α:Type}{enc:(Nat->Prop)->World->α->List Value->Prop}(he:fL enc){B C:Nat}{w:World}{v:Value}{x:α}{cs:List Value}(h:enc (bQ C) w x cs)(hB:B<=C)(hv:∀b,v.ownBlock=some b->b<C):enc (mO B v) w x cs:=
 he.wide h fun b hb _=>⟨by have hb:C<=b:=hb;omega,fun e=>by have hb:C<=b:=hb;have:=hv b e;omega⟩
theorem fresh_offA{α:Type}{enc:(Nat->Prop)->World->α->List Value->Prop}(he:fL enc){B C:Nat}{w:World}{v v2:Value}{x:α}{cs:List Value}(h:enc (bQ C) w x cs)(hB:B<=C)(hv:∀b,v.ownBlock=some b->b<C)(wW:∀b,v2.ownBlock=some b->b<C):encA v2.ownBlock enc (mO B v) w x cs:=
 he.wide h fun b hb _=>⟨⟨by have hb:C<=b:=hb;omega,fun e=>by have hb:C<=b:=hb;have:=hv b e;omega⟩,fun e=>by have hb:C<=b:=hb;have:=wW b e;omega⟩
section
variable {l:List Tok}
theorem fieldsFrom_len{most:Nat}:∀(F:Nat)(fs:List Fld)(i:Nat)(r:List Fld)(j:Nat),fs.length<=most->dG l most F fs i=.ok (r,j)->r.length<=most
 |0,fs,i,r,j,hl,h=>by unfold dG at h;cases h;exact hl
 |F+1,fs,i,r,j,hl,h=>by
  cases hq:cP l i with
  |false=>rw[pU hq] at h;cases h
  |true=>
   by_cases hm:fs.length<most
   ·rw[lL hq hm] at h;obtain⟨s,j1,-,h⟩:=PR.of_bnd h;obtain⟨t,j2,-,h⟩:=PR.of_bnd h;obtain⟨q,j3,-,h⟩:=PR.of_bnd h;split at h
    ·cases h;simp;omega
    exact fieldsFrom_len F _ _ r j Y9 h
   rw[fieldsFrom_full hq hm] at h;cases h
theorem fieldsP_len{most i j:Nat}{r:List Fld}(h:iQ l most i=.ok (r,j)):r.length<=most:=by
 unfold iQ at h;obtain⟨_,j1,-,h⟩:=PR.of_bnd h;split at h
 ·cases h;simp
 exact fieldsFrom_len _ _ _ _ _ YR h
theorem moveP_no{n i:Nat}(h:isP l i lT=false):moveP l n i=.ok ((false,[],[],[]),i):=by unfold moveP;rw[if_neg (by rw[h];simp)]
theorem moveP_yes{n i:Nat}(h:isP l i lT=true):moveP l n i=(iQ l 8 (i+1)).bnd fun old j=>(eB l j jS).bnd fun _ j2=>(gX l n j2 rC).bnd fun fw j3=>(gX l old.length j3 dP).bnd fun bk k=>.ok ((true,old,fw,bk),k):=by unfold moveP;rw[if_pos h]
end
def modK4(l:List Tok)(name:bA)(us:List bA)(ve:List Fld×List Xp)(fs:List Fnc)(i6:Nat):PR Mdl:=(moveP l ve.1.length i6).bnd fun mv i7=>if(aL l i7).kind=3 then .ok (⟨name,us,ve.1,ve.2,fs,mv.1,mv.2.1,mv.2.2.1,mv.2.2.2⟩,i7) else kL l i7 11
def modK3(l:List Tok)(name:bA)(us:List bA)(ve:List Fld×List Xp)(i5:Nat):PR Mdl:=(eV l (l.length+1) [] i5).bnd fun fs i6=>modK4 l name us ve fs i6
def modK2(l:List Tok)(name:bA)(us:List bA)(i4:Nat):PR Mdl:=(gH l (l.length+1) [] [] i4).bnd fun ve i5=>modK3 l name us ve i5
def modK5(l:List Tok)(name:bA)(us:List bA)(ve:List Fld×List Xp)(fs:List Fnc)(mv:Bool×List Fld×List Xp×List Xp)(i7:Nat):PR Mdl:=if(aL l i7).kind=3 then .ok (⟨name,us,ve.1,ve.2,fs,mv.1,mv.2.1,mv.2.2.1,mv.2.2.2⟩,i7) else kL l i7 11
theorem modK4_eq(l:List Tok)(name:bA)(us:List bA)(ve:List Fld×List Xp)(fs:List Fnc)(i:Nat):modK4 l name us ve fs i=(moveP l ve.1.length i).bnd fun mv i7=>modK5 l name us ve fs mv i7:=rfl
theorem modK4_yes{l:List Tok}{name:bA}{us:List bA}{vs:List Fld}{es:List Xp}{fs:List Fnc}{i:Nat}(h:isP l i lT=true):modK4 l name us (vs,es) fs i=((iQ l 8 (i+1)).bnd fun old j=>(eB l j jS).bnd fun _ j2=>(gX l vs.length j2 rC).bnd fun fw j3=>(gX l old.length j3 dP).bnd fun bk k=>.ok ((true,old,fw,bk),k)).bnd fun mv i7=>modK5 l name us (vs,es) fs mv i7:=by
 rw[modK4_eq,moveP_yes h]
theorem moduleP_eq(l:List Tok):gD l=(eB l 0 cJ).bnd fun _ i=>(gK l i).bnd fun name i2=>(eB l i2 dP).bnd fun _ i3=>(fV l (l.length+1) [] i3).bnd fun us i4=>modK2 l name us i4:=rfl
theorem fnInfo:(Tryz.prog.info? 47).map (fun i=>(i.zero,i.size,i.bytes))=some (some (oBx12 ByteArray.empty false none 0 0 0 none 0 0 0 0 0 ByteArray.empty ByteArray.empty none 0 0 none 0 0),12,184):=YN
end Go.Proofs.YtiionicikdnnpaaGreatDoor
