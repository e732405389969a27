/- Texts of this seat, joined. -/
import Derived.Great.BuildSlice
import Derived.Test.YtiionicikdnnpaaGreatDoorNY
set_option maxHeartbeats 8000000
set_option maxRecDepth 100000
set_option linter.unusedVariables false
set_option linter.unusedSimpArgs false
namespace Go.Proofs.YtiionicikdnnpaaGreatDoor
open Go.RowKit
section
variable {o:Oper} {a:Act} {w:World} {K:Act->World->Prop} {Q:Exit->Act->World->Prop}
theorem xpSize:(Tryz.prog.info? 35).map (·.size)=some 6:=RZ
theorem xp_load(g:Nat){c0 c1 c2 c3 c4 c5:Value}(hg:w.heap[g]? =some (.cells #[c0,c1,c2,c3,c4,c5] 35))(x:Operand)(ho:o.op=.load 35 x)(hx:a.eval x=.pointer (some ⟨g,0,none⟩))
  (h:K (a.put o.dst (.agg #[c0,c1,c2,c3,c4,c5])) w):o.wp Tryz.prog a w K Q:=
 wp_load_row _ x ho g hx _ _ _ _ hg Tryz.underlying35 rfl xpSize h
theorem mY(g:Nat){z0 z1 z2 z3 z4 z5 c0 c1 c2 c3 c4 c5:Value}(hg:w.heap[g]? =some (.cells #[z0,z1,z2,z3,z4,z5] 35))(x y:Operand)(ho:o.op=.store 35 x y)(hx:a.eval x=.pointer (some ⟨g,0,none⟩))(hy:a.eval y=.agg #[c0,c1,c2,c3,c4,c5])(h1:#[c0,c1,c2,c3,c4,c5].all (·.oneCell')=true)
  (h:K (a.put o.dst undef) (w.setRow g #[c0,c1,c2,c3,c4,c5])):o.wp Tryz.prog a w K Q:=
 wp_store_row _ x y ho g _ hx hy _ _ hg xpSize rfl h1 h
theorem xp_slice1{c0 c1 c2 c3 c4 c5:Value}(x:Operand)(ho:o.op=.buildSlice 25 1 #[(0,x)])(hx:a.eval x=.agg #[c0,c1,c2,c3,c4,c5])
  (h:K (a.put o.dst (.slice (some ⟨w.heap.size,0,none⟩) 1 1)) (w.alloc (.cells #[c0,c1,c2,c3,c4,c5] 35))):o.wp Tryz.prog a w K Q:=by
 obtain⟨ie,hie,hz,hs,-⟩:=info_parts xpInfo;refine wp_buildSlice _ _ 1 _ ho #[c0,c1,c2,c3,c4,c5] ie _ Tryz.underlying25 hie hz (by rw[hs];decide) (by rw[hs];decide) ?_ h;rw[hs];simp only[List.map_toArray,List.map_cons,List.map_nil,hx]
 kernel_rfl
theorem xp_slice2{c0 c1 c2 c3 c4 c5 d0 d1 d2 d3 d4 d5:Value}(x y:Operand)(ho:o.op=.buildSlice 25 2 #[(0,x),(1,y)])(hx:a.eval x=.agg #[c0,c1,c2,c3,c4,c5])(hy:a.eval y=.agg #[d0,d1,d2,d3,d4,d5])
  (h:K (a.put o.dst (.slice (some ⟨w.heap.size,0,none⟩) 2 2)) (w.alloc (.cells #[c0,c1,c2,c3,c4,c5,d0,d1,d2,d3,d4,d5] 35))):o.wp Tryz.prog a w K Q:=by
 obtain⟨ie,hie,hz,hs,-⟩:=info_parts xpInfo;refine wp_buildSlice _ _ 2 _ ho #[c0,c1,c2,c3,c4,c5,d0,d1,d2,d3,d4,d5] ie _ Tryz.underlying25 hie hz (by rw[hs];decide) (by rw[hs];decide) ?_ h;rw[hs];simp only[List.map_toArray,List.map_cons,List.map_nil,hx,hy]
 kernel_rfl
end
theorem row_off(w:World)(g:Nat)(cs:Array Value):Off (fun b=>b=g) w (w.setRow g cs):=⟨rfl,rfl,rfl,R2,fun k _ hn=>setRow_other w g k cs hn⟩
end Go.Proofs.YtiionicikdnnpaaGreatDoor
namespace Go.Proofs.YtiionicikdnnpaaGreatDoor
open Go.RowKit
theorem QR{p:Prop}(h:p:=by
 obtain⟨_,_,-,h⟩:=PR.of_bnd h;obtain⟨_,_,-,h⟩:=PR.of_bnd h;obtain⟨_,_,-,h⟩:=PR.of_bnd h;obtain⟨_,_,-,h⟩:=PR.of_bnd h;obtain⟨_,_,-,h⟩:=PR.of_bnd h;cases h;exact Nat.zero_le _):p:=h
def kZ:List Value:=(eJ.map fun o=>[Value.string o.1,.int .i64 o.2.1,.int .i64 (o.2.2:Int)]).flatten
theorem operators_any(w:World):Calls Tryz.prog 135 #[] w fun e w'=>e=.returned (.slice (some ⟨w.heap.size,0,none⟩) 7 7)/\w'=w.alloc (.cells kZ.toArray 166):=by
 go_enter Tryz.func135,Tryz.ntmps135
 go_wp2
 go_ret;exact⟨rfl,rfl⟩
theorem opers_one{l:List Tok}{i a b:Nat}{x y:bA×Int×Nat}(hx:eJ[a]? =some x)(hy:eJ[b]? =some y)(h1:isP l i x.1=true)(h2:isP l i y.1=true):a=b:=by
 unfold isP at h1 h2;simp only[Bool.and_eq_true,decide_eq_true_eq] at h1 h2;have e:x.1=y.1:=h1.2.symm.trans h2.2;have ha:=(Yb.1 hx).1;have hb:=(Yb.1 hy).1;have key:∀a b:Fin 7,(eJ.map fun o=>o.1.data.toList)[a.1]? =(eJ.map fun o=>o.1.data.toList)[b.1]? ->a=b:=R0;have rX:a<7:=ha;have rT:b<7:=hb;have:=key ⟨a,rX⟩ ⟨b,rT⟩ (by simp only[List.getElem?_map,hx,hy,Option.map_some,e]);exact congrArg Fin.val this
structure ExL (p:Prs) (W:World) (b5:Nat) (x:Xp) (cs:List Value) (q:Nat) (wr:World):Prop where
 off:Off p.S W wr
 res:wr.heap[W.heap.size]? =some (.cells bC 35)
 loc:wr.heap[b5]? =some (.cells cs.toArray 35)
 enc:bJ (fun b=>W.heap.size<b/\b≠b5) wr x cs
 b5:W.heap.size<b5
 pb:p.pb<W.heap.size
 at_:p.At wr q
section
variable {p:Prs} {W wr w':World} {b5 q j:Nat} {x y:Xp} {cs:List Value}
theorem ExL.next(h:ExL p W b5 x cs q wr)(ho:Off p.S wr w')(ha:p.At w' j):ExL p W b5 x cs j w':=by
 have tY:=h.pb;have hb:=h.b5;exact⟨h.off.trans ho,ho.heap (fun e=>by have e:W.heap.size=p.pb:=e;omega) h.res,ho.heap (fun e=>by have e:b5=p.pb:=e;omega) h.loc,aH.off h.enc ho (fun b pN hn=>by have pN:b=p.pb:=pN;have:=hn.1;omega),hb,tY,ha⟩
theorem ExL.below(h:ExL p W b5 x cs q wr)(hb:Below wr.heap.size wr w'):ExL p W b5 x cs q w':=h.next (Ba hb) (h.at_.later hb)
theorem ExL.put{i0:Nat}{z0 z1 z2 z3 z4 z5 y0 y1 y2 y3 y4 y5:Value}(h:ExL p W b5 x [z0,z1,z2,z3,z4,z5] q wr)(hW:p.At W i0)(hx:bJ (fun b=>W.heap.size<b/\b≠b5) wr y [y0,y1,y2,y3,y4,y5]):
  ExL p W b5 y [y0,y1,y2,y3,y4,y5] q (wr.setRow b5 #[y0,y1,y2,y3,y4,y5]):=by
 have o:=row_off wr b5 #[y0,y1,y2,y3,y4,y5];have hb:=h.b5;exact⟨Off.fresh ((h.off.or _).trans (o.mono fun b pN=>.inr U2)) (Nat.le_refl _),o.heap RY h.res,setRow_heap _ _ _ _ _ _ h.loc,aH.off hx o (fun b pN hn=>hn.2 pN),hb,h.pb,hW.above h.at_ (o.mono fun b pN=>U2)⟩
end
section
variable {l:List Tok} {rec:RecP} {form own F q:Nat} {e:Xp}
theorem dots_no(h:isP l q kX=false):iK l (F+1) e q=.ok (e,q):=by rw[iK,if_neg (by rw[h];simp)]
theorem dots_yes(h:isP l q kX=true):iK l (F+1) e q=(fC l (q+1)).bnd fun s j=>iK l F (.mk 14 0 s noB [] [e]) j:=by rw[iK,if_pos h]
theorem ops_none(h:jF l q=none):kR l rec form (F+1) own e q=.ok (e,q):=by rw[kR,h]
theorem ops_stop{t:bA}{op:Int}{fm:Nat}(h:jF l q=some (t,op,fm))(hc:fm<form\/own<fm\/(own=4/\fm=4)):kR l rec form (F+1) own e q=.ok (e,q):=by rw[kR,h];simp only;rw[if_pos hc]
theorem ops_on{t:bA}{op:Int}{fm:Nat}(h:jF l q=some (t,op,fm))(hc:¬(fm<form\/own<fm\/(own=4/\fm=4))):kR l rec form (F+1) own e q=(rec (fm+1) (q+1)).bnd fun b j=>kR l rec form F fm (.mk op 0 noB noB [] [e,b]) j:=by rw[kR,h];simp only;rw[if_neg hc]
end
def opSeen(l:List Tok)(q k:Nat):bA×Int×Nat:=((eJ.take k).find? fun o=>isP l q o.1).getD (⟨#[]⟩,0,0)
theorem opSeen_all(l:List Tok)(q:Nat):opSeen l q 7=(jF l q).getD (⟨#[]⟩,0,0):=rfl
theorem opSeen_no{l:List Tok}{q k:Nat}{o:bA×Int×Nat}(hk:eJ[k]? =some o)(hn:isP l q o.1=false):opSeen l q (k+1)=opSeen l q k:=by
 unfold opSeen;rw[List.take_add_one,hk,List.find?_append];simp[hn]
theorem opSeen_yes{l:List Tok}{q k:Nat}{o:bA×Int×Nat}(hk:eJ[k]? =some o)(hy:isP l q o.1=true):opSeen l q (k+1)=o:=by
 unfold opSeen;rw[List.take_add_one,hk,List.find?_append]
 cases hf:(eJ.take k).find? fun o=>isP l q o.1 with
 |none=>simp[hy]
 |some y=>
  have hy2:=List.find?_some hf;have hm:=List.mem_of_find?_eq_some hf;obtain⟨a,ha⟩:=List.mem_iff_getElem?.1 hm
  have qA:a<k:=by
   have:=(Yb.1 ha).1;simp at this;omega
  rw[List.getElem?_take,if_pos qA] at ha;have:=opers_one ha hk hy2 hy;omega
theorem opers_at{k:Nat}{t:bA}{op:Int}{fm:Nat}(hk:eJ[k]? =some (t,op,fm)):kZ[k*3]? =some (.string t)/\kZ[k*3+1]? =some (.int .i64 op)/\kZ[k*3+2]? =some (.int .i64 (fm:Int)):=by
 have h7:k<7:=(Yb.1 hk).1
 match k,h7,hk with
 |0,_,hk=>cases hk;exact⟨rfl,rfl,rfl⟩
 |1,_,hk=>cases hk;exact⟨rfl,rfl,rfl⟩
 |2,_,hk=>cases hk;exact⟨rfl,rfl,rfl⟩
 |3,_,hk=>cases hk;exact⟨rfl,rfl,rfl⟩
 |4,_,hk=>cases hk;exact⟨rfl,rfl,rfl⟩
 |5,_,hk=>cases hk;exact⟨rfl,rfl,rfl⟩
 |6,_,hk=>cases hk;exact⟨rfl,rfl,rfl⟩
theorem operAt_ok{l:List Tok}{q:Nat}{t:bA}{op:Int}{fm:Nat}(h:jF l q=some (t,op,fm)):¬t=⟨#[]⟩/\fm<=6/\isP l q t=true:=by
 have hm:=List.mem_of_find?_eq_some h;have hp:=List.find?_some h;refine⟨?_,?_,hp⟩
 ·simp only[eJ,List.mem_cons,List.not_mem_nil,or_false,Prod.mk.injEq] at hm;rcases hm with⟨rfl,-,-⟩|⟨rfl,-,-⟩|⟨rfl,-,-⟩|⟨rfl,-,-⟩|⟨rfl,-,-⟩|⟨rfl,-,-⟩|⟨rfl,-,-⟩<;>decide
 simp only[eJ,List.mem_cons,List.not_mem_nil,or_false,Prod.mk.injEq] at hm;rcases hm with⟨-,-,rfl⟩|⟨-,-,rfl⟩|⟨-,-,rfl⟩|⟨-,-,rfl⟩|⟨-,-,rfl⟩|⟨-,-,rfl⟩|⟨-,-,rfl⟩<;>decide
structure OpI (p:Prs) (W:World) (b5:Nat) (x:Xp) (cs:List Value) (q g:Nat) (seen:bA×Int×Nat) (wr:World):Prop where
 ex:ExL p W b5 x cs q wr
 xc:wr.heap[g]? =some (oU seen.1 seen.2.1 (seen.2.2:Int))
 oc:wr.heap[g+1]? =some (.cells kZ.toArray 166)
 lt:b5<g
 en:bJ (fun b=>W.heap.size<b/\b≠b5/\b<g) wr x cs
theorem ExL.search{p:Prs}{W wr:World}{b5 q:Nat}{x:Xp}{cs:List Value}(h:ExL p W b5 x cs q wr):
  OpI p W b5 x cs q wr.heap.size (⟨#[]⟩,0,0) ((wr.alloc (oU ⟨#[]⟩ 0 0)).alloc (.cells kZ.toArray 166)):=by
 have b1:=aB wr (oU ⟨#[]⟩ 0 0);have b2:=aB (wr.alloc (oU ⟨#[]⟩ 0 0)) (.cells kZ.toArray 166);have hz:=(Array.getElem?_eq_some_iff.1 h.loc).1;have hn:=bY (wr.alloc (oU ⟨#[]⟩ 0 0)) (.cells kZ.toArray 166);rw[show(wr.alloc (oU ⟨#[]⟩ 0 0)).heap.size=wr.heap.size+1 by simp] at hn;exact⟨(h.below b1).below b2,aC b2 (bY wr _),hn,hz,aH _ _ _ _ _ _ (fun b hb hl=>⟨⟨hb.1,hb.2,hl⟩,fun o u hu=>aD (aA b1 b2) hu⟩) h.enc⟩
section
variable {p:Prs} {W wr w':World} {b5 q g:Nat} {x:Xp} {cs:List Value} {seen:bA×Int×Nat}
theorem OpI.below(h:OpI p W b5 x cs q g seen wr)(hb:Below wr.heap.size wr w'):OpI p W b5 x cs q g seen w':=⟨h.ex.below hb,aC hb h.xc,aC hb h.oc,h.lt,aH _ _ _ _ _ _ (aQ.later hb) h.en⟩
theorem OpI.put{i0:Nat}{t:bA}{op:Int}{fm:Nat}(h:OpI p W b5 x cs q g seen wr)(hW:p.At W i0):OpI p W b5 x cs q g (t,op,fm) (((wr.setCell ⟨g,0,none⟩ (.string t)).setCell ⟨g,1,none⟩ (.int .i64 op)).setCell ⟨g,2,none⟩ (.int .i64 (fm:Int))):=by
 have o:Off (fun b=>b=g) wr (((wr.setCell ⟨g,0,none⟩ (.string t)).setCell ⟨g,1,none⟩ (.int .i64 op)).setCell ⟨g,2,none⟩ (.int .i64 (fm:Int))):=(((Off.setCell (b:=g) wr rfl).trans (Off.setCell _ rfl)).trans (Off.setCell _ rfl)).mono fun b hb=>Eq.symm hb;have hb:=h.ex.b5;have hl:=h.lt;have hc:=h.xc;have M3:=aH.off h.en o fun b pN hn=>by have pN:b=g:=pN;have:=hn.2.2;omega
 refine⟨⟨Off.fresh ((h.ex.off.or _).trans (o.mono fun b pN=>.inr (by have pN:b=g:=pN;omega))) (Nat.le_refl _),o.heap RY h.ex.res,o.heap RY h.ex.loc,?_,hb,h.ex.pb,hW.above h.ex.at_ (o.mono fun b pN=>by have pN:b=g:=pN;omega)⟩,?_,o.heap RY h.oc,hl,M3⟩
 ·exact aH.wide M3 fun b pX _=>⟨pX.1,pX.2.1⟩
 rw[aU (aU (aU hc _) _) _];rfl
end
theorem lV{t:bA}(h:t.toList=[]):t=⟨#[]⟩:=by
 have h1:=eE t ⟨#[]⟩;rw[h,toList_nil (s:=⟨#[]⟩) rfl] at h1;exact of_decide_eq_true h1.symm
theorem prefix_own{l:List Tok}{rec:RecP}{form i j:Nat}{r:Xp×Nat}(h:bS l rec form i=.ok (r,j)):r.2<=8:=by
 unfold bS at h;split at h
 ·exact QR
 split at h
 ·exact QR
 split at h
 ·obtain⟨_,_,-,h⟩:=PR.of_bnd h;obtain⟨_,_,-,h⟩:=PR.of_bnd h;cases h;exact Nat.zero_le _
 split at h
 ·obtain⟨_,_,-,h⟩:=PR.of_bnd h;cases h;show 3<=8;decide
 obtain⟨_,_,-,h⟩:=PR.of_bnd h;cases h;show 8<=8;decide
end Go.Proofs.YtiionicikdnnpaaGreatDoor
namespace Go.Proofs.YtiionicikdnnpaaGreatDoor
open Go.RowKit
theorem OZ{p:Prop}(h:p:=by
 have A2:=isP_lt HI.out.ex.at_ htq;have b1:=HI.out.ex.at_.box1;have NL:=HI.out.ex.at_.froz;have FE:=HI.out.ex.at_.bound;have rM:=HI.out.ex.at_.step A2;have M0:wr.heap.size≠p.pb:=by have:=HI.out.ex.pb;have:=HI.out.ex.b5;have:=HI.out.lt;omega
 go_wp2_with fail;have vJ:Hid (ExL p w b5 x [.int .i64 op,.int .i64 n,.string s,.string m,.slice a1 n1 c1,.slice a2 n2 c2] (q+1) (w2.setCell ⟨p.pb,1,none⟩ (.int .i64 ((q:Int)+1)))):=zh (HI.out.ex.next rM.2 rM.1);have tN:Hid ((w2.setCell ⟨p.pb,1,none⟩ (.int .i64 ((q:Int)+1))).heap[wr.heap.size]? =some (oU t2 sW (vN:Int))):=zh (rM.2.heap (fun e=>M0 e) HI.out.xc);have KW:Hid (p.At (w2.setCell ⟨p.pb,1,none⟩ (.int .i64 ((q:Int)+1))) (q+1)):=zh rM.1;have hq5:=HB.out.1;have hq6:=HB.out.2;clear rM b1 NL k0 k1 k2 j0 j1 j2 uT HI qI hte htq htn;generalize (w2.setCell ⟨p.pb,1,none⟩ (.int .i64 ((q:Int)+1)))=w4 at *;generalize wr.heap.size=g at *;have hgw:=(Array.getElem?_eq_some_iff.1 tN.out).1;refine wp_region_held_drew (S:=(fun W=>W.heap[g]? =some (oU t2 sW (vN:Int)))) RZ (aC (aF _) tN.out) fun hS=>?_;refine zq 0 (.pointer (some ⟨g,1,none⟩)) rfl ?_;refine zt 1 (.int .i64 sW) rfl (fun W hW=>by(obtain⟨⟨k0,k1,k2⟩,j0,j1,j2⟩:=bx3 hW);go_simp) ?_;refine zq 3 (.pointer (some ⟨p.pb,0,none⟩)) rfl ?_;refine zq 4 (.pointer (some ⟨g,2,none⟩)) rfl ?_;refine zt 5 (.int .i64 (vN:Int)) rfl (fun W hW=>by(obtain⟨⟨k0,k1,k2⟩,j0,j1,j2⟩:=bx3 hW);go_simp) ?_;refine zt 6 (.int .i64 ((vN:Int)+1)) rfl (fun W hW=>by have hfmw:IntKind.i64.wrap ((vN:Int)+1)=(vN:Int)+1:=SQ;go_simp) ?_;try simp only[zn]
 refine wpAnyH_ready (rs:=[2,7]) RZ R2 ?_;refine AllReadyH.cons rfl (fun K hK=>?_) (AllReadyH.cons rfl (fun K hK=>?_) AllReadyH.nil)
 ·rw[if_pos RZ];try simp only[z1,z2,z3]
  refine xp_load b5 (vJ.out.below (aF _)).loc _ rfl rfl ?_;refine hK.out _ _ (hS) (fun hS=>?_);clear hK K;try simp only[zn]
  refine zr 7 rfl (fun K hK=>?_);try simp only[z1,z2,z3]
  go_simp;refine(HE.out (vN+1) (q+1) w4.drew (KW.out.later (aF _)) RY RY).mono ?_;rintro e w5 (⟨x5,rF,rfl,qM⟩|⟨xb,jb,rF,⟨⟨opc,nc,sc,mc,pc,qc,rc,tc,uc,vc,rfl,DR⟩,sN,EC⟩,qM⟩)
  ·go_wp2_with fail;exact⟨rfl,Ran.bad' (vX.out.trans (PR.bnd_bad rF)) (vJ.out.off.trans ((Ba (aF _)).trans qM))⟩
  have tU:=zh ((vJ.out.below (aF _)).next qM sN);have OQ:=zh DR;have DC:=zh (vX.out.trans (PR.bnd_ok rF));have yC:w4.heap.size<=w5.heap.size:=qM.size;have ND:=qM.heap (show g≠p.pb from RY) hS;clear sN qM DR rF;refine hK.out _ _ (ND) (fun hS=>?_);clear hK K;try simp only[zn]
  have xF:=zh (tU.out.below (aB w5 (gI op n s m a1 n1 c1 a2 n2 c2 opc nc sc mc pc qc rc tc uc vc)));have yR:=zh (xF.out.put HW.out (y:=.mk sW 0 noB noB [] [x,xb]) (y0:=.int .i64 sW) (y1:=.int .i64 0) (y2:=.string ⟨#[]⟩) (y3:=.string ⟨#[]⟩) (y4:=.slice none 0 0) (y5:=.slice (some ⟨w5.heap.size,0,none⟩) 2 2) R5);refine zr 8 rfl (fun K hK=>?_);try simp only[z1,z2,z3]
  refine xp_slice2 _ _ rfl rfl rfl ?_;refine hK.out _ _ (aC (aB w5 _) hS) (fun hS=>?_);clear hK K;refine zq 9 (dW sW 0 ⟨#[]⟩ ⟨#[]⟩ none 0 0 (some ⟨w5.heap.size,0,none⟩) 2 2) rfl ?_;try simp only[zn]
  refine zr 10 rfl (fun K hK=>?_);try simp only[z1,z2,z3]
  refine mY b5 xF.out.loc _ _ rfl rfl rfl SG ?_;refine hK.out _ _ ((setRow_other _ _ _ _ RY).trans hS) (fun hS=>?_);clear hK K;try simp only[zn]
  refine wpAnyH_done RZ ?_ _;clear xF HE;have HS:=zh hS;have HQ:=zh HLq.out;generalize World.setRow (w5.alloc (gI op n s m a1 n1 c1 a2 n2 c2 opc nc sc mc pc qc rc tc uc vc)) b5 #[.int .i64 sW,.int .i64 0,.string ⟨#[]⟩,.string ⟨#[]⟩,.slice none 0 0,.slice (some ⟨w5.heap.size,0,none⟩) 2 2]=w6 at *;clear hS;obtain⟨⟨k0,k1,k2⟩,j0,j1,j2⟩:=bx3 HS.out;go_wp2_with fail;go_roundw
  case rel=>
   obtain⟨F',tQ⟩:∃F',F=F'+1:=⟨F-1,by have:=HB.out.1;have:=A2;omega⟩;subst tQ;exact⟨jb,F',vN,_,sW,0,⟨#[]⟩,⟨#[]⟩,none,0,0,some ⟨w5.heap.size,0,none⟩,2,2,rfl,RY,yR,DC,zh ⟨by have:=HB.out;omega,by have:=HB.out;omega⟩⟩
  case measure=>
   have h1:=yR.out.at_.pos;have h2:=yR.out.at_.lt;rw[h1,HQ.out];omega
 rw[if_pos RZ];try simp only[z1,z2,z3]
 go_simp;refine(HE.out (vN+1) (q+1) w4.drew (KW.out.later (aF _)) RY RY).mono ?_;rintro e w5 (⟨x5,rF,rfl,qM⟩|⟨xb,jb,rF,⟨⟨opc,nc,sc,mc,pc,qc,rc,tc,uc,vc,rfl,DR⟩,sN,EC⟩,qM⟩)
 ·go_wp2_with fail;exact⟨rfl,Ran.bad' (vX.out.trans (PR.bnd_bad rF)) (vJ.out.off.trans ((Ba (aF _)).trans qM))⟩
 have tU:=zh ((vJ.out.below (aF _)).next qM sN);have OQ:=zh DR;have DC:=zh (vX.out.trans (PR.bnd_ok rF));have yC:w4.heap.size<=w5.heap.size:=qM.size;have ND:=qM.heap (show g≠p.pb from RY) hS;clear sN qM DR rF;refine hK.out _ _ (ND) (fun hS=>?_);clear hK K;try simp only[zn]
 refine zr 2 rfl (fun K hK=>?_);try simp only[z1,z2,z3]
 refine xp_load b5 tU.out.loc _ rfl rfl ?_;refine hK.out _ _ (hS) (fun hS=>?_);clear hK K;try simp only[zn]
 have xF:=zh (tU.out.below (aB w5 (gI op n s m a1 n1 c1 a2 n2 c2 opc nc sc mc pc qc rc tc uc vc)));have yR:=zh (xF.out.put HW.out (y:=.mk sW 0 noB noB [] [x,xb]) (y0:=.int .i64 sW) (y1:=.int .i64 0) (y2:=.string ⟨#[]⟩) (y3:=.string ⟨#[]⟩) (y4:=.slice none 0 0) (y5:=.slice (some ⟨w5.heap.size,0,none⟩) 2 2) R5);refine zr 8 rfl (fun K hK=>?_);try simp only[z1,z2,z3]
 refine xp_slice2 _ _ rfl rfl rfl ?_;refine hK.out _ _ (aC (aB w5 _) hS) (fun hS=>?_);clear hK K;refine zq 9 (dW sW 0 ⟨#[]⟩ ⟨#[]⟩ none 0 0 (some ⟨w5.heap.size,0,none⟩) 2 2) rfl ?_;try simp only[zn]
 refine zr 10 rfl (fun K hK=>?_);try simp only[z1,z2,z3]
 refine mY b5 xF.out.loc _ _ rfl rfl rfl SG ?_;refine hK.out _ _ ((setRow_other _ _ _ _ RY).trans hS) (fun hS=>?_);clear hK K;try simp only[zn]
 refine wpAnyH_done RZ ?_ _;clear xF HE;have HS:=zh hS;have HQ:=zh HLq.out;generalize World.setRow (w5.alloc (gI op n s m a1 n1 c1 a2 n2 c2 opc nc sc mc pc qc rc tc uc vc)) b5 #[.int .i64 sW,.int .i64 0,.string ⟨#[]⟩,.string ⟨#[]⟩,.slice none 0 0,.slice (some ⟨w5.heap.size,0,none⟩) 2 2]=w6 at *;clear hS;obtain⟨⟨k0,k1,k2⟩,j0,j1,j2⟩:=bx3 HS.out;go_wp2_with fail;go_roundw
 case rel=>
  obtain⟨F',tQ⟩:∃F',F=F'+1:=⟨F-1,by have:=HB.out.1;have:=A2;omega⟩;subst tQ;exact⟨jb,F',vN,_,sW,0,⟨#[]⟩,⟨#[]⟩,none,0,0,some ⟨w5.heap.size,0,none⟩,2,2,rfl,RY,yR,DC,zh ⟨by have:=HB.out;omega,by have:=HB.out;omega⟩⟩
 case measure=>
  have h1:=yR.out.at_.pos;have h2:=yR.out.at_.lt
  rw[h1,HQ.out];omega):p:=h
theorem PC{p:Prop}(h:p:=by
 refine hK.out _ _ trivial (fun hS=>?_);clear hK K;try simp only[zn]
 refine zr 3 rfl (fun K hK=>?_);try simp only[z1,z2,z3]
 refine xp_slice1 _ rfl rfl ?_;refine hK.out _ _ trivial (fun hS=>?_);clear hK K;try simp only[zn]
 have xF:=zh (vJ.out.below (aB w4 (aN op n s m a1 n1 c1 a2 n2 c2)));have xJ:=zh (xF.out.put HW.out (y:=.mk 14 0 ns noB [] [x]) (y0:=.int .i64 14) (y1:=.int .i64 0) (y2:=.string ns) (y3:=.string ⟨#[]⟩) (y4:=.slice none 0 0) (y5:=.slice (some ⟨w4.heap.size,0,none⟩) 1 1) (by rw[aW];exact⟨_,_,rfl,sV,R0,aO.nil _ _ _ _,(aO.of_block (N:=fun b=>w.heap.size<b/\b≠b5) (css:=[[.int .i64 op,.int .i64 n,.string s,.string m,.slice a1 n1 c1,.slice a2 n2 c2]]) (bY w4 _) UR rfl R2 (fun i y c hy hc=>by match i,hy,hc with|0,hy,hc=>(cases hy;cases hc;exact aH _ _ _ _ _ _ (aQ.later (aB w4 _)) vJ.out.enc)) rfl R0:aO 6 bJ (fun b=>w.heap.size<b/\b≠b5) (w4.alloc (aN op n s m a1 n1 c1 a2 n2 c2)) (.slice (some ⟨w4.heap.size,0,none⟩) 1 1) [x])⟩));refine zq 4 (dW 14 0 ns ⟨#[]⟩ none 0 0 (some ⟨w4.heap.size,0,none⟩) 1 1) rfl ?_;try simp only[zn]
 refine zr 5 rfl (fun K hK=>?_);try simp only[z1,z2,z3]
 refine mY b5 xF.out.loc _ _ rfl rfl rfl SG ?_;refine hK.out _ _ trivial (fun hS=>?_);clear hK K;try simp only[zn]
 refine wpAnyH_done RZ ?_ _;clear xF hS HE;have vX:=zh (uJ.out.trans (congrArg (fun z=>PR.bnd z _) (PR.bnd_ok tN.out)));have IM:=zh (gD tN.out);have HQ:=zh HL.out.at_.pos;clear tN qI uJ D1;generalize World.setRow (w4.alloc (aN op n s m a1 n1 c1 a2 n2 c2)) b5 #[.int .i64 14,.int .i64 0,.string ns,.string ⟨#[]⟩,.slice none 0 0,.slice (some ⟨w4.heap.size,0,none⟩) 1 1]=w5 at *;go_roundw
 case rel=>
  obtain⟨F',tQ⟩:∃F',F=F'+1:=⟨F-1,TD⟩;subst tQ;refine⟨_,_,_,_,_,_,_,_,_,_,_,⟨j4,F',_,14,0,ns,⟨#[]⟩,none,0,0,some ⟨w4.heap.size,0,none⟩,1,1,xJ,zh (vX.out.trans (congrArg (fun z=>PR.bnd z _) (if_pos pR).symm)),zh ⟨UA,UA⟩⟩,rfl⟩
 case measure=>
  have h1:=xJ.out.at_.pos;have h2:=xJ.out.at_.lt;have h3:=IM.out
  rw[h1,HQ.out];omega):p:=h
theorem PK{p:Prop}(h:p:=by
 obtain⟨⟨y0,y1,y2,y3,y4,y5⟩,h0,h1,h2,h3,h4,h5⟩:=bx6 HI.out.ex.loc;obtain⟨⟨r0,r1,r2,r3,r4,r5⟩,g0,g1,g2,g3,g4,g5⟩:=bx6 HI.out.ex.res;go_wp2_with fail;have hE:=gX HW.out HI.out.ex.off HI.out.ex.at_ HI.out.ex.enc (fun b hb=>hb.1);unfold gC at hE;refine bodyPost_ret (v:=dW op n s m a1 n1 c1 a2 n2 c2) (by simp[results,Tryz.results48,go_sem,r0,r1,r2,r3,r4,r5]) rfl ?_
 exact Ran.good HR.out ⟨⟨op,n,s,m,a1,n1,c1,a2,n2,c2,rfl,hE.1⟩,hE.2.1,HJ.out⟩ hE.2.2):p:=h
theorem RJ{p:Prop}(h:p:=by
 go_wp2_with fail
 exact⟨rfl,Ran.bad' (uJ.out.trans (PR.bnd_bad (PR.bnd_bad qX))) ((xW.out.below (aF _)).off.trans qD)⟩):p:=h
theorem exp_step(p:Prs)(f:Nat)(hE:gV p f)(hP:PrimOk p f)(form i:Nat)(w:World)(h:p.At w i)(hf:form<=9)(sH:p.l.length<f+1+i):Calls Tryz.prog 48 #[.pointer (some ⟨p.pb,0,none⟩),.int .i64 (form:Int)] w
  (Ran p.S w (bL p.l (f+1) form i) fun x j e w'=>oC w.heap.size x e w'/\p.At w' j/\i<=j):=by
 have HE:=zh hE;have HW:=zh h;have qG:=h.len;have tY:=h.blt;have pQ:w.heap.size≠p.pb:=RY;have HR:Hid (bL p.l (f+1) form i=(bS p.l (bL p.l f) form i).bnd fun r j=>(if 7<=r.2 then iK p.l (p.l.length+1) r.1 j else .ok (r.1,j)).bnd fun e k=>kR p.l (bL p.l f) form (p.l.length+1) r.2 e k):=zh (by rw[bL]);have N5:=zh (prefix_any p f hE hP (w.alloc (.cells bC 35)) form i (h.later (aB _ _)) hf RY);have zD:(w.alloc (.cells bC 35)).heap.size=w.heap.size+1:=R2;clear h hE hP;go_enter Tryz.func48,Tryz.ntmps48;go_wp2_with(go_at_call 134;refine N5.out.mono ?_;rintro e w2 (⟨x2,qB,rfl,pU⟩|⟨r,j2,qB,⟨⟨op,n,s,m,a1,n1,c1,a2,n2,c2,rfl,hex⟩,qY,AU⟩,pU⟩))
 ·exact⟨rfl,Ran.bad' (HR.out.trans (PR.bnd_bad qB)) ((Ba (aB _ _)).trans pU)⟩
 have rU:=pU.size;have HL0:Hid (ExL p w w2.heap.size r.1 [.int .i64 op,.int .i64 n,.string s,.string m,.slice a1 n1 c1,.slice a2 n2 c2] j2 (w2.alloc (aN op n s m a1 n1 c1 a2 n2 c2))):=zh ⟨((Ba (aB _ _)).trans pU).trans (Ba (aB _ _)),aC (aB _ _) (pU.heap pQ (bY w _)),bY w2 _,aH _ _ _ _ _ _ (fun b hb hl=>⟨⟨by have hb:(w.alloc (.cells bC 35)).heap.size<=b:=hb;omega,RY⟩,fun o u hu=>aD (aB _ _) hu⟩) hex,RY,tY,qY.later (aB _ _)⟩;have NT:=zh (HR.out.trans (PR.bnd_ok qB));have hr8:=prefix_own qB;clear hex qY pU qB N5 HR;obtain⟨x0,own⟩:=r;simp only at HL0 NT hr8;have hb5:w.heap.size<w2.heap.size:=RY;generalize w2.heap.size=b5 at *;go_loopw [16] (fun sl wr=>∃(q F:Nat)(x:Xp)(op n:Int)(s m:bA)(a1:Option Addr)(n1 c1:Nat)(a2:Option Addr)(n2 c2:Nat),Hid (ExL p w b5 x [.int .i64 op,.int .i64 n,.string s,.string m,.slice a1 n1 c1,.slice a2 n2 c2] q wr)/\Hid (bL p.l (f+1) form i=(if 7<=own then iK p.l (F+1) x q else .ok (x,q)).bnd fun e k=>kR p.l (bL p.l f) form (p.l.length+1) own e k)/\Hid (p.l.length<=F+q/\i<=q)) (fun _ wr=>p.l.length-posOf wr p.pb)
 case atStart=>exact⟨j2,p.l.length,x0,op,n,s,m,a1,n1,c1,a2,n2,c2,HL0,NT,zh ⟨RY,AU⟩⟩
 case round=>
  obtain⟨q,F,x,op,n,s,m,a1,n1,c1,a2,n2,c2,HL,qI,HB⟩:=hrel;rename World=>wr
  by_cases pR:7<=own
  focus
   have uS:¬(own:Int)<7:=RY;have hown2:(7:Int)<=(own:Int):=RY;rcases Bool.eq_false_or_eq_true (isP p.l q kX) with hqd|hqd
   focus
    ·skip;have hl:=isP_lt HL.out.at_ hqd;have uJ:=zh (qI.out.trans (congrArg (fun z=>PR.bnd z _) ((if_pos pR).trans (dots_yes hqd))));go_wp2_with(go_at_call 120;refine(fY p wr q kX HL.out.at_ hqd).mono ?_;rintro e w3 ⟨rfl,rY,qK⟩);have xW:=zh (HL.out.next qK rY);clear rY qK;refine wp_region_held_drew (S:=(fun _=>True)) RZ trivial fun hS=>?_;refine zq 0 (.pointer (some ⟨p.pb,0,none⟩)) rfl ?_;(try simp only[zn]);refine wpAnyH_ready (rs:=[1,2]) RZ R2 ?_;refine AllReadyH.cons rfl (fun K hK=>?_) (AllReadyH.cons rfl (fun K hK=>?_) AllReadyH.nil)
     ·rw[if_pos RZ];(try simp only[z1,z2,z3]);go_simp;refine(fV p w3.drew (q+1) (xW.out.below (aF _)).at_).mono ?_;rintro e w4 (⟨x4,qX,rfl,qD⟩|⟨ns,j4,qX,⟨rfl,rR,sV⟩,qD⟩)
      ·exact RJ
      have vJ:=zh ((xW.out.below (aF _)).next qD rR);have tN:=zh qX;have D1:=zh qD;clear rR qD qX;have LI:b5<w4.heap.size:=(Array.getElem?_eq_some_iff.1 vJ.out.loc).1;have hwz:=vJ.out.b5;refine hK.out _ _ trivial (fun hS=>?_);clear hK K;(try simp only[zn]);refine zr 2 rfl (fun K hK=>?_);(try simp only[z1,z2,z3]);refine xp_load b5 vJ.out.loc _ rfl rfl ?_;exact PC
     rw[if_pos RZ];(try simp only[z1,z2,z3]);refine xp_load b5 (xW.out.below (aF _)).loc _ rfl rfl ?_;refine hK.out _ _ trivial (fun hS=>?_);clear hK K;(try simp only[zn]);refine wpAnyH_ready (rs:=[1,3]) RZ R2 ?_;refine AllReadyH.cons rfl (fun K hK=>?_) (AllReadyH.cons rfl (fun K hK=>?_) AllReadyH.nil)
     ·rw[if_pos RZ];(try simp only[z1,z2,z3]);go_simp;refine(fV p w3.drew (q+1) (xW.out.below (aF _)).at_).mono ?_;rintro e w4 (⟨x4,qX,rfl,qD⟩|⟨ns,j4,qX,⟨rfl,rR,sV⟩,qD⟩)
      ·exact RJ
      have vJ:=zh ((xW.out.below (aF _)).next qD rR);have tN:=zh qX;have D1:=zh qD;clear rR qD qX;have LI:b5<w4.heap.size:=(Array.getElem?_eq_some_iff.1 vJ.out.loc).1;have hwz:=vJ.out.b5;exact PC
     rw[if_pos RZ];(try simp only[z1,z2,z3]);refine xp_slice1 _ rfl rfl ?_;refine hK.out _ _ trivial (fun hS=>?_);clear hK K;(try simp only[zn]);refine zr 1 rfl (fun K hK=>?_);(try simp only[z1,z2,z3]);go_simp;refine(fV p (w3.drew.alloc (aN op n s m a1 n1 c1 a2 n2 c2)) (q+1) (xW.out.below (aA (aF w3) (aB w3.drew (aN op n s m a1 n1 c1 a2 n2 c2)))).at_).mono ?_;rintro e w4 (⟨x4,qX,rfl,qD⟩|⟨ns,j4,qX,⟨rfl,rR,sV⟩,qD⟩)
     ·go_wp2_with fail;exact⟨rfl,Ran.bad' (uJ.out.trans (PR.bnd_bad (PR.bnd_bad qX))) ((xW.out.below (aA (aF w3) (aB w3.drew (aN op n s m a1 n1 c1 a2 n2 c2)))).off.trans qD)⟩
     have vJ:=zh ((xW.out.below (aA (aF w3) (aB w3.drew (aN op n s m a1 n1 c1 a2 n2 c2)))).next qD rR);have tN:=zh qX;have D1:=zh qD;clear rR qD qX;have hrow4:=D1.out.heap (show w3.drew.heap.size≠p.pb from fun e=>by have:=xW.out.at_.blt;have e:w3.heap.size=p.pb:=e;omega) (bY w3.drew (aN op n s m a1 n1 c1 a2 n2 c2));have hdz:w3.drew.heap.size=w3.heap.size:=rfl;have LI:b5<w3.heap.size:=(Array.getElem?_eq_some_iff.1 xW.out.loc).1;have hwz:=vJ.out.b5;refine hK.out _ _ trivial (fun hS=>?_);clear hK K;(try simp only[zn]);have xF:=zh (vJ.out);have xJ:=zh (xF.out.put HW.out (y:=.mk 14 0 ns noB [] [x]) (y0:=.int .i64 14) (y1:=.int .i64 0) (y2:=.string ns) (y3:=.string ⟨#[]⟩) (y4:=.slice none 0 0) (y5:=.slice (some ⟨w3.drew.heap.size,0,none⟩) 1 1) (by rw[aW];exact⟨_,_,rfl,sV,R0,aO.nil _ _ _ _,(aO.of_block (N:=fun b=>w.heap.size<b/\b≠b5) (css:=[[.int .i64 op,.int .i64 n,.string s,.string m,.slice a1 n1 c1,.slice a2 n2 c2]]) (hrow4) UR rfl R2 (fun i y c hy hc=>by match i,hy,hc with|0,hy,hc=>(cases hy;cases hc;exact vJ.out.enc)) rfl R0:aO 6 bJ (fun b=>w.heap.size<b/\b≠b5) w4 (.slice (some ⟨w3.drew.heap.size,0,none⟩) 1 1) [x])⟩));refine zq 4 (dW 14 0 ns ⟨#[]⟩ none 0 0 (some ⟨w3.drew.heap.size,0,none⟩) 1 1) rfl ?_;(try simp only[zn]);refine zr 5 rfl (fun K hK=>?_);(try simp only[z1,z2,z3]);refine mY b5 xF.out.loc _ _ rfl rfl rfl SG ?_;refine hK.out _ _ trivial (fun hS=>?_);clear hK K;(try simp only[zn]);refine wpAnyH_done RZ ?_ _;clear xF hS HE;have vX:=zh (uJ.out.trans (congrArg (fun z=>PR.bnd z _) (PR.bnd_ok tN.out)));have IM:=zh (gD tN.out);have HQ:=zh HL.out.at_.pos;clear tN qI uJ D1;generalize World.setRow w4 b5 #[.int .i64 14,.int .i64 0,.string ns,.string ⟨#[]⟩,.slice none 0 0,.slice (some ⟨w3.drew.heap.size,0,none⟩) 1 1]=w5 at *;go_roundw
     case rel=>
      obtain⟨F',tQ⟩:∃F',F=F'+1:=⟨F-1,TD⟩;subst tQ;refine⟨_,_,_,_,_,_,_,_,_,_,_,⟨j4,F',_,14,0,ns,⟨#[]⟩,none,0,0,some ⟨w3.drew.heap.size,0,none⟩,1,1,xJ,zh (vX.out.trans (congrArg (fun z=>PR.bnd z _) (if_pos pR).symm)),zh ⟨UA,UA⟩⟩,rfl⟩
     case measure=>
      have h1:=xJ.out.at_.pos;have h2:=xJ.out.at_.lt;have h3:=IM.out;rw[h1,HQ.out];omega
   have NS:=zh (qI.out.trans (congrArg (fun z=>PR.bnd z _) ((if_pos pR).trans (dots_no hqd))));go_wp2_with(go_at_call 120;refine(bI p wr q kX HL.out.at_ hqd).mono ?_;rintro e w3 ⟨rfl,rY,qK⟩;have HLE:=zh (HL.out.next qK rY);clear rY qK)
  rotate_left
  focus
   have uS:(own:Int)<7:=RY;have NS:=zh (qI.out.trans (congrArg (fun z=>PR.bnd z _) (if_neg pR)));have HLE:=HL;go_wp2_with fail
  all_goals
   have HSpO:Hid (bL p.l (f+1) form i=kR p.l (bL p.l f) form (p.l.length+1) own x q):=zh NS.out;clear HL qI NS HL0 NT;(go_loopw [6] (fun sl wr=>∃(q F own:Nat)(x:Xp)(op n:Int)(s m:bA)(a1:Option Addr)(n1 c1:Nat)(a2:Option Addr)(n2 c2:Nat),sl=.int .i64 (own:Int)/\own<=8/\Hid (ExL p w b5 x [.int .i64 op,.int .i64 n,.string s,.string m,.slice a1 n1 c1,.slice a2 n2 c2] q wr)/\Hid (bL p.l (f+1) form i=kR p.l (bL p.l f) form (F+1) own x q)/\Hid (p.l.length<=F+q/\i<=q)) (fun _ wr=>p.l.length-posOf wr p.pb));case atStart=>exact⟨q,p.l.length,own,x,op,n,s,m,a1,n1,c1,a2,n2,c2,rfl,hr8,HLE,HSpO,zh ⟨RY,HB.out.2⟩⟩
   case round=>
    clear HLE HSpO HB pR uS hr8;obtain⟨q,F,own,x,op,n,s,m,a1,n1,c1,a2,n2,c2,rfl,hr8,HL,qI,HB⟩:=hrel;(rename World=>wr);have HI0:=zh HL.out.search;have HLq:=zh HL.out.at_.pos;have hgb:=(Array.getElem?_eq_some_iff.1 HL.out.loc).1;have hb5w:=HL.out.b5;go_wp2_with(go_at_call 135;refine(operators_any _).mono ?_;rintro e w1 ⟨rfl,rfl⟩);(go_loopw [29] (fun sl w2=>∃k:Nat,k<=7/\sl=.int .i64 (k:Int)/\Hid (OpI p w b5 x [.int .i64 op,.int .i64 n,.string s,.string m,.slice a1 n1 c1,.slice a2 n2 c2] q wr.heap.size (opSeen p.l q k) w2)) (fun sl _=>7-(intOf sl).toNat));case atStart=>exact⟨0,RY,rfl,HI0⟩
    case round=>
     obtain⟨k,hk7,rfl,HI⟩:=hrel;(rename World=>w2);by_cases qA:k<7
     ··skip;obtain⟨⟨t,wE,fm⟩,hk⟩:∃o,eJ[k]? =some o:=⟨_,List.getElem?_eq_getElem (show k<eJ.length from qA)⟩;obtain⟨hc0,CF,sI⟩:=opers_at hk;have c0:=(bx HI.out.oc (k*3) (by simpa using hc0)).1;have c1:=(bx HI.out.oc (k*3+1) (by simpa using CF)).1;have c2:=(bx HI.out.oc (k*3+2) (by simpa using sI)).1;clear hc0 CF sI;have OJ:=zh (HI.out.below (aB w2 (oU t wE (fm:Int))));have HK:=zh hk
       cases hqt:isP p.l q t with
       |true=>
        go_wp2_with(go_at_call 112;refine(gJ p _ q t OJ.out.ex.at_).mono ?_;rintro e w3 ⟨rfl,pX⟩;rw[hqt];have OI:=zh (OJ.out.below pX);obtain⟨⟨d0,d1,d2⟩,-⟩:=bx3 (aC pX (bY w2 (oU t wE (fm:Int))));obtain⟨⟨k0,k1,k2⟩,j0,j1,j2⟩:=bx3 OI.out.xc);have OH:=zh (OI.out.put HW.out (t:=t) (op:=wE) (fm:=fm));clear d0 d1 d2 k0 k1 k2 j0 j1 j2;go_roundw;(case rel=>exact⟨k+1,RY,SK,by rw[opSeen_yes HK.out hqt];exact OH⟩);case measure=>simp[intOf];omega
       |false=>
        go_wp2_with(go_at_call 112;refine(gJ p _ q t OJ.out.ex.at_).mono ?_;rintro e w3 ⟨rfl,pX⟩;rw[hqt];have OI:=zh (OJ.out.below pX));go_roundw;(case rel=>exact⟨k+1,RY,SK,by rw[opSeen_no HK.out hqt];exact OI⟩);case measure=>simp[intOf];omega
     have hk:k=7:=RY;subst hk
     cases uT:jF p.l q with
     |none=>
      (have A1:opSeen p.l q 7=(⟨#[]⟩,0,0):=by rw[opSeen_all,uT];rfl);rw[A1] at HI;have HR:=zh (qI.out.trans (ops_none uT));have HJ:=zh (show i<=q from HB.out.2);clear A1 uT qI HB HI0 HLq HE;obtain⟨⟨k0,k1,k2⟩,j0,j1,j2⟩:=bx3 HI.out.xc;exact PK
     |some o=>
      obtain⟨t2,sW,vN⟩:=o;(have A1:opSeen p.l q 7=(t2,sW,vN):=by rw[opSeen_all,uT];rfl);rw[A1] at HI;obtain⟨htn,hfm6,htq⟩:=operAt_ok uT;(have hte:(t2.toList==[])=false:=by rw[beq_eq_false_iff_ne];intro e;exact htn (lV e));have HJ:=zh (show i<=q from HB.out.2);clear A1 HI0;obtain⟨⟨k0,k1,k2⟩,j0,j1,j2⟩:=bx3 HI.out.xc;by_cases e1:vN<form
      ·have HR:=zh (qI.out.trans (ops_stop uT (.inl e1)));clear uT qI HB HE;have e1':(vN:Int)<(form:Int):=RY;exact PK
      have e1':¬(vN:Int)<(form:Int):=RY;have e1'':(form:Int)<=(vN:Int):=RY;by_cases e2:own<vN
      ·have HR:=zh (qI.out.trans (ops_stop uT (.inr (.inl e2))));clear uT qI HB HE;have e2':(own:Int)<(vN:Int):=RY;exact PK
      have e2':¬(own:Int)<(vN:Int):=RY;have e2'':(vN:Int)<=(own:Int):=RY;by_cases e3:own=4
      ·(have e3':((own:Int)==4)=true:=by rw[beq_iff_eq];omega);by_cases e4:vN=4
       ·(have e4':((vN:Int)==4)=true:=by rw[beq_iff_eq];omega);have HR:=zh (qI.out.trans (ops_stop uT (.inr (.inr ⟨e3,e4⟩))));clear uT qI HB HE e3 e4;exact PK
       have e4':((vN:Int)==4)=false:=SA;have vX:=zh (qI.out.trans (ops_on uT (fun h=>by rcases h with h|h|h<;>omega)));clear e3 e4;exact OZ
      have e3':((own:Int)==4)=false:=SA;have vX:=zh (qI.out.trans (ops_on uT (fun h=>by rcases h with h|h|h<;>omega)));exact OZ
end Go.Proofs.YtiionicikdnnpaaGreatDoor
namespace Go.Proofs.YtiionicikdnnpaaGreatDoor
theorem exp_ok(p:Prs):∀f,gV p f
 |0=>fun form i w h hf sH=>by have:=h.lt;omega
 |f+1=>fun form i w h hf sH=>exp_step p f (exp_ok p f) (primary_ok p f (exp_ok p f) (record_any p f (exp_ok p f))) form i w h hf sH
theorem exp_all(p:Prs):ExpAll p:=ExpAll.of (exp_ok p)
end Go.Proofs.YtiionicikdnnpaaGreatDoor
namespace Go.Proofs.YtiionicikdnnpaaGreatDoor
open Go.RowKit
def encA{α:Type}(o:Option Nat)(enc:(Nat->Prop)->World->α->List Value->Prop)(N:Nat->Prop)(w:World)(x:α)(cs:List Value):Prop:=enc (fun b=>N b/\o≠some b) w x cs
theorem encA_ok{α:Type}(o:Option Nat){enc:(Nat->Prop)->World->α->List Value->Prop}(he:fM enc):fM (encA o enc):=fun _ _ _ _ _ _ hm h=>he _ _ _ _ _ _ (fun b hb hl=>⟨⟨(hm b hb.1 hl).1,hb.2⟩,(hm b hb.1 hl).2⟩) h
structure Pair {α β:Type} (k1:Nat) (T1:TypeId) (enc1:(Nat->Prop)->World->α->List Value->Prop) (k2:Nat) (T2:TypeId) (enc2:(Nat->Prop)->World->β->List Value->Prop) (B:Nat) (l1:List α) (c1:List (List Value)) (v1:Value) (l2:List β) (c2:List (List Value)) (v2:Value) (w:World):Prop where
 a:Gro k1 T1 (encA v2.ownBlock enc1) B l1 c1 v1 w
 b:Gro k2 T2 (encA v1.ownBlock enc2) B l2 c2 v2 w
 d:∀b,v1.ownBlock=some b->v2.ownBlock≠some b
section
variable {α β:Type} {k1 k2:Nat} {T1 T2:TypeId} {enc1:(Nat->Prop)->World->α->List Value->Prop} {enc2:(Nat->Prop)->World->β->List Value->Prop} {B:Nat} {l1:List α} {l2:List β} {c1 c2:List (List Value)} {v1 v2:Value} {w w' w9 rB:World}
theorem Pair.swap(h:Pair k1 T1 enc1 k2 T2 enc2 B l1 c1 v1 l2 c2 v2 w):Pair k2 T2 enc2 k1 T1 enc1 B l2 c2 v2 l1 c1 v1 w:=⟨h.b,h.a,fun b hb e=>h.d b e hb⟩
theorem Pair.stays(uL:fM enc1)(tZ:fM enc2)(h:Pair k1 T1 enc1 k2 T2 enc2 B l1 c1 v1 l2 c2 v2 w)(hs:dC B w w'):Pair k1 T1 enc1 k2 T2 enc2 B l1 c1 v1 l2 c2 v2 w':=⟨h.a.stays (encA_ok _ uL) hs,h.b.stays (encA_ok _ tZ) hs,h.d⟩
theorem Pair.add{x:α}{news:List Value}{g cap n1:Nat}(uL:fM enc1)(tZ:fM enc2)(h:Pair k1 T1 enc1 k2 T2 enc2 B l1 c1 v1 l2 c2 v2 w9)(hx:encA v2.ownBlock enc1 (nD B v1) w9 x news)(hk:news.length=k1)
  (pR:rB.ownsRow B T1 k1 (.slice (some ⟨g,0,none⟩) n1 cap) n1 (c1.flatten++news)) (hn:n1=l1.length+1) (pM:w9.grownBy rB v1.ownBlock) (qV:v1.ownBlock=some g\/g=w9.heap.size):
  Pair k1 T1 enc1 k2 T2 enc2 B (l1++[x]) (c1++[news]) (.slice (some ⟨g,0,none⟩) n1 cap) l2 c2 v2 rB:=by
 subst hn;have FT:=h.b.lt
 have hg:∀b,b<w9.heap.size->v1.ownBlock≠some b->b≠g:=fun b hb hn e=>by
  subst e;rcases qV with h1|h1
  ·exact hn h1
  omega
 refine⟨h.a.added (encA_ok _ uL) hx hk pR pM qV,?_,fun b hb e=>?_⟩
 ·refine h.b.change pM.size (fun b hb=>pM.block b (FT b hb).2 fun e=>h.d b e.symm hb) (fun y c hy=>?_);refine tZ _ _ _ _ _ _ (fun b hb hl=>⟨⟨hb.1,fun e=>?_⟩,fun o u hu=>pM.cell hu (fun e=>hb.2 e.symm)⟩) hy;have e:g=b:=UG;exact hg b hl hb.2 e.symm
 have pN:g=b:=by simpa[Value.ownBlock] using hb
 subst pN;rcases qV with h1|h1
 ·exact h.d g h1 e
 have:=(FT g e).2;omega
theorem Pair.row(uL:fM enc1)(h:Pair k1 T1 enc1 k2 T2 enc2 B l1 c1 v1 l2 c2 v2 w):aO k1 enc1 (bO B) w v1 l1:=by
 obtain⟨a,c,h1,h2,h3,h4⟩:=h.a.row (encA_ok _ uL);refine⟨a,c,h1,h2,h3,fun pQ=>?_⟩;obtain⟨b,o,e1,e2,e3⟩:=h4 pQ;refine⟨b,o,e1,e2,fun i x hx=>?_⟩;obtain⟨cs,f1,f2,f3⟩:=e3 i x hx;exact⟨cs,uL.wide f1 (fun b hb _=>hb.1),f2,f3⟩
end
def fF(B C:Nat):Nat->Prop:=fun b=>B<=b/\b<C
theorem aO.betw{α:Type}{k:Nat}{enc:(Nat->Prop)->World->α->List Value->Prop}(he:fM enc)(hk:0<k){B:Nat}{w:World}{v:Value}{l:List α}(h:aO k enc (bO B) w v l):aO k enc (fF B w.heap.size) w v l:=h.moves he (fun _ hb hl=>⟨⟨hb,hl⟩,fun _ _ h=>h⟩) hk
section
variable {T:TypeId} {zero cells:Array Value} {p:Prs} {O S:Nat->Prop} {W w8 rB:World} {b5 B q i0:Nat} {E:World->Prop}
theorem Mk.above(h:Mk T zero p O S W b5 cells E q w8)(hW:p.At W i0)(hb:b5<B)(ho:Off (fun b=>B<=b) w8 rB)(hE:dY (fun b=>B<=b) E):Mk T zero p O S W b5 cells E q rB:=by
 have h1:=h.hb5;exact⟨Off.fresh ((h.off.or _).trans (ho.mono fun b hb=>.inr U1)) (Nat.le_refl _),ho.heap RY h.res,ho.heap RY h.loc,hW.above h.at_ (ho.mono fun b hb=>U1),hE _ _ ho h.enc,h.st,h1,h.sO,h.s5,h.sR,h.sP⟩
theorem Mk.drew(h:Mk T zero p O S W b5 cells E q w8):Mk T zero p O S W b5 cells E q w8.drew:=h.below (aF _)
theorem Mk.wide{S':Nat->Prop}(h:Mk T zero p O S W b5 cells (fun _=>True) q w8)(h1:∀b,S' b->O b\/W.heap.size<b)(h2:¬S' b5)(h3:¬S' W.heap.size)(h4:S' p.pb):Mk T zero p O S' W b5 cells (fun _=>True) q w8:=
 ⟨h.off,h.res,h.loc,h.at_,trivial,dY.true,h.hb5,h1,h2,h3,h4⟩
end
def encM(N:Nat->Prop)(w:World)(m:Mdl)(cs:List Value):Prop:=∃vu vv vi vf vo vw vb,cs=[.string m.name,vu,vv,vi,vf,.bool m.moves,vo,vw,vb]/\m.name.size<=8000/\
 aO 1 iD N w vu m.uses/\aO 3 fH N w vv m.vars/\aO 6 bJ N w vi m.init/\aO 12 iU N w vf m.funcs/\aO 3 fH N w vo m.old/\aO 6 bJ N w vw m.forward/\aO 6 bJ N w vb m.back
theorem kO:fM encM:=fun _ _ _ _ f cs hm h=>by
 obtain⟨vu,vv,vi,vf,vo,vw,vb,h1,h2,h3,h4,h5,h6,h7,h8,h9⟩:=h;exact⟨vu,vv,vi,vf,vo,vw,vb,h1,h2,h3.moves bP hm R0,h4.moves aT hm R0,h5.moves aH hm R0,h6.moves bD hm R0,h7.moves aT hm R0,h8.moves aH hm R0,h9.moves aH hm R0⟩
theorem bx9{w:World}{b:Nat}{x0 x1 x2 x3 x4 x5 x6 x7 x8:Value}{t:TypeId}(h:w.heap[b]? =some (.cells #[x0,x1,x2,x3,x4,x5,x6,x7,x8] t)):
  (w.cell? ⟨b,0,none⟩=some x0/\w.cell? ⟨b,1,none⟩=some x1/\w.cell? ⟨b,2,none⟩=some x2/\w.cell? ⟨b,3,none⟩=some x3/\w.cell? ⟨b,4,none⟩=some x4/\w.cell? ⟨b,5,none⟩=some x5/\w.cell? ⟨b,6,none⟩=some x6/\w.cell? ⟨b,7,none⟩=some x7/\w.cell? ⟨b,8,none⟩=some x8)/\
  (w.frozen? ⟨b,0,none⟩=false/\w.frozen? ⟨b,1,none⟩=false/\w.frozen? ⟨b,2,none⟩=false/\w.frozen? ⟨b,3,none⟩=false/\w.frozen? ⟨b,4,none⟩=false/\w.frozen? ⟨b,5,none⟩=false/\w.frozen? ⟨b,6,none⟩=false/\w.frozen? ⟨b,7,none⟩=false/\w.frozen? ⟨b,8,none⟩=false):=
 ⟨⟨(bx h 0 rfl).1,(bx h 1 rfl).1,(bx h 2 rfl).1,(bx h 3 rfl).1,(bx h 4 rfl).1,(bx h 5 rfl).1,(bx h 6 rfl).1,(bx h 7 rfl).1,(bx h 8 rfl).1⟩,(bx h 0 (u:=x0) rfl).2,(bx h 1 (u:=x1) rfl).2,(bx h 2 (u:=x2) rfl).2,(bx h 3 (u:=x3) rfl).2,(bx h 4 (u:=x4) rfl).2,(bx h 5 (u:=x5) rfl).2,(bx h 6 (u:=x6) rfl).2,(bx h 7 (u:=x7) rfl).2,(bx h 8 (u:=x8) rfl).2⟩
abbrev cP:Array Value:=#[.string ⟨#[]⟩,.slice none 0 0,.slice none 0 0,.slice none 0 0,.slice none 0 0,.bool false,.slice none 0 0,.slice none 0 0,.slice none 0 0]
def set9(w:World)(b:Nat)(x0 x1 x2 x3 x4 x5 x6 x7 x8:Value):World:=
 ((((((((w.setCell ⟨b,0,none⟩ x0).setCell ⟨b,1,none⟩ x1).setCell ⟨b,2,none⟩ x2).setCell ⟨b,3,none⟩ x3).setCell ⟨b,4,none⟩ x4).setCell ⟨b,5,none⟩ x5).setCell ⟨b,6,none⟩ x6).setCell ⟨b,7,none⟩ x7).setCell ⟨b,8,none⟩ x8
theorem oL(w:World)(b:Nat)(x0 x1 x2 x3 x4 x5 x6 x7 x8:Value):Off (fun k=>k=b) w (set9 w b x0 x1 x2 x3 x4 x5 x6 x7 x8):=by
 unfold set9;exact(Off.refl _ _).one.one.one.one.one.one.one.one.one
section
variable {l:List Tok} {F q:Nat}
theorem uses_stop{out:List bA}(h:isP l q pC=false):eM l (F+1) out q=.ok (out,q):=by rw[eM,if_neg (by rw[h];simp)]
theorem uses_step{out:List bA}(h:isP l q pC=true):eM l (F+1) out q=(eH l q out.length 12).bnd fun _ _=>(fO l (q+1) (fun s=>out.any fun x=>decide (x=s))).bnd fun s j=>(dD l j dB).bnd fun _ k=>eM l F (out++[s]) k:=by rw[eM,if_pos h]
theorem vars_stop{vs:List Fld}{es:List Xp}(h:isP l q nJ=false):eV l (F+1) vs es q=.ok ((vs,es),q):=by rw[eV,if_neg (by rw[h];simp)]
theorem vars_step{vs:List Fld}{es:List Xp}(h:isP l q nJ=true):eV l (F+1) vs es q=(eH l q vs.length 8).bnd fun _ _=>(fO l (q+1) (fun s=>vs.any fun x=>decide (x.1=s))).bnd fun s j=>(iW l j).bnd fun t j2=>(kL l j2 (decide (aZ t<=4)) kEq).bnd fun _ j3=>(iM l j3 dB).bnd fun e k=>eV l F (vs++[(s,t)]) (es++[e]) k:=by rw[eV,if_pos h]
theorem funcs_stop{fs:List Fnc}(h:(isP l q kF||isP l q kFn)=false):dQ l (F+1) fs q=.ok (fs,q):=by rw[dQ,if_neg (by rw[h];simp)]
theorem funcs_step{fs:List Fnc}(h:(isP l q kF||isP l q kFn)=true):dQ l (F+1) fs q=(eH l q fs.length 30).bnd fun _ _=>(gW l q (fun s=>fs.any fun x=>decide (x.name=s))).bnd fun x k=>dQ l F (fs++[x]) k:=by rw[dQ,if_pos h]
theorem any_pushS(l:List bA)(a:bA):(eN fun z=>decide (z=a)||l.any fun x=>decide (x=z))=eN fun s=>(l++[a]).any fun x=>decide (x=s):=by
 exact QH
theorem any_pushF(l:List Fnc)(f:Fnc):(eN fun z=>decide (z=f.name)||l.any fun x=>decide (x.name=z))=eN fun s=>(l++[f]).any fun x=>decide (x.name=s):=by
 refine congrArg eN (funext fun z=>?_);simp only[List.any_append,List.any_cons,List.any_nil,Bool.or_false];rw[Bool.or_comm];by_cases h:f.name=z
 ·subst h;rfl
 have h2:¬z=f.name:=fun e=>h e.symm;simp only[decide_eq_false h,decide_eq_false h2]
end
structure iE (w:World) (ka na:Nat) (fa:bA->Bool) (kb nb:Nat) (fb:bA->Bool) (kc nc:Nat) (fc:bA->Bool):Prop where
 a:bR jQ fU w ka na (eN fa)
 b:bR jQ fU w kb nb (eN fb)
 c:bR jQ fU w kc nc (eN fc)
section
variable {w w':World} {ka na kb nb kc nc na' nb' nc':Nat} {fa fb fc fa' fb' fc':bA->Bool} {S:Nat->Prop}
theorem iE.off(h:iE w ka na fa kb nb fb kc nc fc)(ho:Off S w w')(hS:¬S ka/\¬S kb/\¬S kc):iE w' ka na fa kb nb fb kc nc fc:=
 ⟨h.a.of_block (ho.block _ h.a.lt hS.1),h.b.of_block (ho.block _ h.b.lt hS.2.1),h.c.of_block (ho.block _ h.c.lt hS.2.2)⟩
theorem iE.later(h:iE w ka na fa kb nb fb kc nc fc)(hb:Below w.heap.size w w'):iE w' ka na fa kb nb fb kc nc fc:=⟨h.a.later hb,h.b.later hb,h.c.later hb⟩
theorem iE.putA(h:iE w ka na fa kb nb fb kc nc fc)(ho:Off S w w')(hS:¬S kb/\¬S kc)(hm:bR jQ fU w' ka na' (eN fa')):iE w' ka na' fa' kb nb fb kc nc fc:=⟨hm,h.b.of_block (ho.block _ h.b.lt hS.1),h.c.of_block (ho.block _ h.c.lt hS.2)⟩
theorem iE.putB(h:iE w ka na fa kb nb fb kc nc fc)(ho:Off S w w')(hS:¬S ka/\¬S kc)(hm:bR jQ fU w' kb nb' (eN fb')):iE w' ka na fa kb nb' fb' kc nc fc:=⟨h.a.of_block (ho.block _ h.a.lt hS.1),hm,h.c.of_block (ho.block _ h.c.lt hS.2)⟩
theorem iE.putC(h:iE w ka na fa kb nb fb kc nc fc)(ho:Off S w w')(hS:¬S ka/\¬S kb)(hm:bR jQ fU w' kc nc' (eN fc')):iE w' ka na fa kb nb fb kc nc' fc':=⟨h.a.of_block (ho.block _ h.a.lt hS.1),h.b.of_block (ho.block _ h.b.lt hS.2),hm⟩
end
theorem pD{α:Type}{k:Nat}{T T0 Te:TypeId}{zero cells cells':Array Value}{p:Prs}{O S:Nat->Prop}{W rD tB:World}{b5 B q i0 g cap n1 j:Nat}{E:World->Prop}{enc:(Nat->Prop)->World->α->List Value->Prop}{l:List α}{css:List (List Value)}{v:Value}{x:α}{news:List Value}
  (hS:Mk T zero p O S W b5 cells E q rD) (hW:p.At W i0) (hb:b5<B) (hG:Gro k Te enc B l css v rD) (he:fM enc) (hx:enc (nD B v) rD x news) (hk:news.length=k) (hE:dY (fun b=>B<=b) E)
  (pR:tB.ownsRow B Te k (.slice (some ⟨g,0,none⟩) n1 cap) n1 (css.flatten++news)) (hn:n1=l.length+1) (pM:(rD.alloc (.cells news.toArray T0)).grownBy tB v.ownBlock) (qV:v.ownBlock=some g\/g=rD.heap.size+1) (hc:cells.setIfInBounds j (.slice (some ⟨g,0,none⟩) n1 cap)=cells'):
  tB.heap[b5]? =some (.cells cells T)/\Mk T zero p O S W b5 cells' E q (tB.setCell ⟨b5,j,none⟩ (.slice (some ⟨g,0,none⟩) n1 cap))/\Gro k Te enc B (l++[x]) (css++[news]) (.slice (some ⟨g,0,none⟩) n1 cap) (tB.setCell ⟨b5,j,none⟩ (.slice (some ⟨g,0,none⟩) n1 cap))/\
  Off (fun b=>B<=b\/b=b5) rD (tB.setCell ⟨b5,j,none⟩ (.slice (some ⟨g,0,none⟩) n1 cap)):=by
 subst hn;have zH:=aB rD (.cells news.toArray T0);have hG9:=hG.later he zH;have qA:=hG9.lt;have hz:(rD.alloc (.cells news.toArray T0)).heap.size=rD.heap.size+1:=R2;have oG:Off (fun b=>B<=b) rD tB:=(Ba zH).trans ⟨pM.os,pM.tape,pM.output,pM.size,fun b hb hn=>pM.block b hb (fun e=>hn (qA b e.symm).1)⟩;have xD:=hG9.added he (he _ _ _ _ _ _ (aQ.later zH) hx) hk pR pM (by rw[hz];exact qV);have C3:=hS.above hW hb oG hE;have CC:Off (fun b=>b=b5) tB (tB.setCell ⟨b5,j,none⟩ (.slice (some ⟨g,0,none⟩) (l.length+1) cap)):=Off.setCell (S:=fun b=>b=b5) tB rfl;exact⟨C3.loc,C3.put hW CC (by rw[aU C3.loc,hc]),xD.stays he (dC.of_off CC fun b pN=>.inl U2),(oG.mono fun b hb=>.inl hb).trans (CC.mono fun b hb=>.inr hb)⟩
theorem grow_pair{α β:Type}{k k2:Nat}{T T0 Te Te2:TypeId}{zero cells cells':Array Value}{p:Prs}{O S:Nat->Prop}{W rD tB:World}{b5 B q i0 g cap n1 j:Nat}{E:World->Prop}{enc:(Nat->Prop)->World->α->List Value->Prop}{enc2:(Nat->Prop)->World->β->List Value->Prop}{l:List α}{l2:List β}{css css2:List (List Value)}{v v2:Value}{x:α}{news:List Value}
  (hS:Mk T zero p O S W b5 cells E q rD) (hW:p.At W i0) (hb:b5<B) (hP:Pair k Te enc k2 Te2 enc2 B l css v l2 css2 v2 rD) (he:fM enc) (tZ:fM enc2) (hx:encA v2.ownBlock enc (nD B v) rD x news) (hk:news.length=k) (hE:dY (fun b=>B<=b) E)
  (pR:tB.ownsRow B Te k (.slice (some ⟨g,0,none⟩) n1 cap) n1 (css.flatten++news)) (hn:n1=l.length+1) (pM:(rD.alloc (.cells news.toArray T0)).grownBy tB v.ownBlock) (qV:v.ownBlock=some g\/g=rD.heap.size+1) (hc:cells.setIfInBounds j (.slice (some ⟨g,0,none⟩) n1 cap)=cells'):
  tB.heap[b5]? =some (.cells cells T)/\Mk T zero p O S W b5 cells' E q (tB.setCell ⟨b5,j,none⟩ (.slice (some ⟨g,0,none⟩) n1 cap))/\Pair k Te enc k2 Te2 enc2 B (l++[x]) (css++[news]) (.slice (some ⟨g,0,none⟩) n1 cap) l2 css2 v2 (tB.setCell ⟨b5,j,none⟩ (.slice (some ⟨g,0,none⟩) n1 cap))/\
  Off (fun b=>B<=b\/b=b5) rD (tB.setCell ⟨b5,j,none⟩ (.slice (some ⟨g,0,none⟩) n1 cap)):=by
 have zH:=aB rD (.cells news.toArray T0);have hP9:=hP.stays he tZ (.of_below zH);have qA:=hP9.a.lt;have hz:(rD.alloc (.cells news.toArray T0)).heap.size=rD.heap.size+1:=R2;have oG:Off (fun b=>B<=b) rD tB:=(Ba zH).trans ⟨pM.os,pM.tape,pM.output,pM.size,fun b hb hn=>pM.block b hb (fun e=>hn (qA b e.symm).1)⟩;have hP13:=hP9.add he tZ (encA_ok _ he _ _ _ _ _ _ (aQ.later zH) hx) hk pR hn pM (by rw[hz];exact qV);have C3:=hS.above hW hb oG hE;have CC:Off (fun b=>b=b5) tB (tB.setCell ⟨b5,j,none⟩ (.slice (some ⟨g,0,none⟩) n1 cap)):=Off.setCell (S:=fun b=>b=b5) tB rfl;exact⟨C3.loc,C3.put hW CC (by rw[aU C3.loc,hc]),hP13.stays he tZ (dC.of_off CC fun b pN=>.inl U2),(oG.mono fun b hb=>.inl hb).trans (CC.mono fun b hb=>.inr hb)⟩
theorem fresh_off{α:Type}{enc:(Nat->Prop)->World->α->List Value->Prop}(he:fM enc){B C:Nat}{w:World}{v:Value}{x:α}{cs:List Value}(h:enc (bO C) w x cs)(hB:B<=C)(hv:∀b,v.ownBlock=some b->b<C):enc (nD B v) w x cs:=
 he.wide h fun b hb _=>⟨by have hb:C<=b:=hb;omega,fun e=>by have hb:C<=b:=hb;have:=hv b e;omega⟩
theorem fresh_offA{α:Type}{enc:(Nat->Prop)->World->α->List Value->Prop}(he:fM enc){B C:Nat}{w:World}{v v2:Value}{x:α}{cs:List Value}(h:enc (bO C) w x cs)(hB:B<=C)(hv:∀b,v.ownBlock=some b->b<C)(vH:∀b,v2.ownBlock=some b->b<C):encA v2.ownBlock enc (nD B v) w x cs:=
 he.wide h fun b hb _=>⟨⟨by have hb:C<=b:=hb;omega,fun e=>by have hb:C<=b:=hb;have:=hv b e;omega⟩,fun e=>by have hb:C<=b:=hb;have:=vH b e;omega⟩
section
variable {l:List Tok}
theorem fieldsFrom_len{most:Nat}:∀(F:Nat)(fs:List Fld)(i:Nat)(r:List Fld)(j:Nat),fs.length<=most->cK l most F fs i=.ok (r,j)->r.length<=most
 |0,fs,i,r,j,hl,h=>by unfold cK at h;cases h;exact hl
 |F+1,fs,i,r,j,hl,h=>by
  cases hq:cG l i with
  |false=>rw[nU hq] at h;cases h
  |true=>
   by_cases hm:fs.length<most
   ·rw[kN hq hm] at h;obtain⟨s,j1,-,h⟩:=PR.of_bnd h;obtain⟨t,j2,-,h⟩:=PR.of_bnd h;obtain⟨q,j3,-,h⟩:=PR.of_bnd h;split at h
    ·cases h;simp;omega
    exact fieldsFrom_len F _ _ r j SX h
   rw[fieldsFrom_full hq hm] at h;cases h
theorem fieldsP_len{most i j:Nat}{r:List Fld}(h:gK l most i=.ok (r,j)):r.length<=most:=by
 unfold gK at h;obtain⟨_,j1,-,h⟩:=PR.of_bnd h;split at h
 ·cases h;simp
 exact fieldsFrom_len _ _ _ _ _ R2 h
theorem moveP_no{n i:Nat}(h:isP l i kK=false):oY l n i=.ok ((false,[],[],[]),i):=by unfold oY;rw[if_neg (by rw[h];simp)]
theorem moveP_yes{n i:Nat}(h:isP l i kK=true):oY l n i=(gK l 8 (i+1)).bnd fun old j=>(dD l j iB).bnd fun _ j2=>(fL l n j2 nT).bnd fun fw j3=>(fL l old.length j3 dB).bnd fun bk k=>.ok ((true,old,fw,bk),k):=by unfold oY;rw[if_pos h]
end
def modK4(l:List Tok)(name:bA)(us:List bA)(ve:List Fld×List Xp)(fs:List Fnc)(i6:Nat):PR Mdl:=(oY l ve.1.length i6).bnd fun mv i7=>if(aI l i7).kind=3 then .ok (⟨name,us,ve.1,ve.2,fs,mv.1,mv.2.1,mv.2.2.1,mv.2.2.2⟩,i7) else gO l i7 11
def modK3(l:List Tok)(name:bA)(us:List bA)(ve:List Fld×List Xp)(i5:Nat):PR Mdl:=(dQ l (l.length+1) [] i5).bnd fun fs i6=>modK4 l name us ve fs i6
def modK2(l:List Tok)(name:bA)(us:List bA)(i4:Nat):PR Mdl:=(eV l (l.length+1) [] [] i4).bnd fun ve i5=>modK3 l name us ve i5
def modK5(l:List Tok)(name:bA)(us:List bA)(ve:List Fld×List Xp)(fs:List Fnc)(mv:Bool×List Fld×List Xp×List Xp)(i7:Nat):PR Mdl:=if(aI l i7).kind=3 then .ok (⟨name,us,ve.1,ve.2,fs,mv.1,mv.2.1,mv.2.2.1,mv.2.2.2⟩,i7) else gO l i7 11
theorem modK4_eq(l:List Tok)(name:bA)(us:List bA)(ve:List Fld×List Xp)(fs:List Fnc)(i:Nat):modK4 l name us ve fs i=(oY l ve.1.length i).bnd fun mv i7=>modK5 l name us ve fs mv i7:=rfl
theorem modK4_yes{l:List Tok}{name:bA}{us:List bA}{vs:List Fld}{es:List Xp}{fs:List Fnc}{i:Nat}(h:isP l i kK=true):modK4 l name us (vs,es) fs i=((gK l 8 (i+1)).bnd fun old j=>(dD l j iB).bnd fun _ j2=>(fL l vs.length j2 nT).bnd fun fw j3=>(fL l old.length j3 dB).bnd fun bk k=>.ok ((true,old,fw,bk),k)).bnd fun mv i7=>modK5 l name us (vs,es) fs mv i7:=by
 rw[modK4_eq,moveP_yes h]
theorem moduleP_eq(l:List Tok):fD l=(dD l 0 bZ).bnd fun _ i=>(fC l i).bnd fun name i2=>(dD l i2 dB).bnd fun _ i3=>(eM l (l.length+1) [] i3).bnd fun us i4=>modK2 l name us i4:=rfl
theorem fnInfo:(Tryz.prog.info? 47).map (fun i=>(i.zero,i.size,i.bytes))=some (some (oBx10 ByteArray.empty false none 0 0 0 none 0 0 0 0 0 ByteArray.empty ByteArray.empty none 0 0 none 0 0),12,184):=RZ
end Go.Proofs.YtiionicikdnnpaaGreatDoor
