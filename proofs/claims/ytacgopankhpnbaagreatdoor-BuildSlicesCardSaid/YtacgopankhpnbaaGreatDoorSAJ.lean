/- Texts of this seat, joined. -/
import Derived.Test.YtacgopankhpnbaaGreatDoorSynMo
set_option maxHeartbeats 16000000
set_option maxRecDepth 100000
set_option linter.unusedVariables false
set_option linter.unusedSimpArgs false
namespace Go.Proofs.YtacgopankhpnbaaGreatDoor
open Go.RowKit
structure RunAt (p:Prs) (w:World) (pv mb:Nat):Prop where
 at_:p.At w 0
 hpv:w.heap[pv]? =some (.cells #[.pointer (some ⟨p.pb,0,none⟩)] 160)
 hmb:w.heap[mb]? =some (.cells dN 132)
 ne:mb≠p.pb/\pv≠p.pb/\pv≠mb
theorem RunAt.later{p:Prs}{w w':World}{pv mb:Nat}(h:RunAt p w pv mb)(hb:Below w.heap.size w w'):RunAt p w' pv mb:=⟨h.at_.later hb,aF hb h.hpv,aF hb h.hmb,h.ne⟩
def MdlAt(B:Nat)(w:World)(mb:Nat)(m:Mdl):Prop:=∃au nu du av nv dv ai ni di af nf df ao no do_ aw nw dw ab nb db,
 w.heap[mb]? =some (.cells #[.string m.name,.slice au nu du,.slice av nv dv,.slice ai ni di,.slice af nf df,.bool m.moves,.slice ao no do_,.slice aw nw dw,.slice ab nb db] 132)/\
 encM (bD B) w m [.string m.name,.slice au nu du,.slice av nv dv,.slice ai ni di,.slice af nf df,.bool m.moves,.slice ao no do_,.slice aw nw dw,.slice ab nb db]
theorem MdlAt.off{B B':Nat}{w w':World}{mb:Nat}{m:Mdl}{S:Nat->Prop}(h:MdlAt B w mb m)(ho:Off S w w')(h1:¬S mb)(h2:∀b,S b->¬B<=b)(hB:B'<=B):MdlAt B' w' mb m:=by
 obtain⟨au,nu,du,av,nv,dv,ai,ni,di,af,nf,df,ao,no,do_,aw,nw,dw,ab,nb,db,e1,e2⟩:=h;exact⟨au,nu,du,av,nv,dv,ai,ni,di,af,nf,df,ao,no,do_,aw,nw,dw,ab,nb,db,ho.heap h1 e1,encM_ok.wide (encM_ok.off e2 ho (fun b hb hn=>h2 b hb hn)) (fun b hb _=>Nat.le_trans hB hb)⟩
theorem set9_heap{w:World}{b:Nat}{z0 z1 z2 z3 z4 z5 z6 z7 z8 x0 x1 x2 x3 x4 x5 x6 x7 x8:Value}{t:TypeId}(h:w.heap[b]? =some (.cells #[z0,z1,z2,z3,z4,z5,z6,z7,z8] t)):(set9 w b x0 x1 x2 x3 x4 x5 x6 x7 x8).heap[b]? =some (.cells #[x0,x1,x2,x3,x4,x5,x6,x7,x8] t):=by
 unfold set9;have e0:(w.setCell ⟨b,0,none⟩ x0).heap[b]? =some (.cells #[x0,z1,z2,z3,z4,z5,z6,z7,z8] t):=by rw[aO h];rfl
 have e1:((w.setCell ⟨b,0,none⟩ x0).setCell ⟨b,1,none⟩ x1).heap[b]? =some (.cells #[x0,x1,z2,z3,z4,z5,z6,z7,z8] t):=by rw[aO e0];rfl
 have e2:(((w.setCell ⟨b,0,none⟩ x0).setCell ⟨b,1,none⟩ x1).setCell ⟨b,2,none⟩ x2).heap[b]? =some (.cells #[x0,x1,x2,z3,z4,z5,z6,z7,z8] t):=by rw[aO e1];rfl
 have e3:((((w.setCell ⟨b,0,none⟩ x0).setCell ⟨b,1,none⟩ x1).setCell ⟨b,2,none⟩ x2).setCell ⟨b,3,none⟩ x3).heap[b]? =some (.cells #[x0,x1,x2,x3,z4,z5,z6,z7,z8] t):=by rw[aO e2];rfl
 have e4:(((((w.setCell ⟨b,0,none⟩ x0).setCell ⟨b,1,none⟩ x1).setCell ⟨b,2,none⟩ x2).setCell ⟨b,3,none⟩ x3).setCell ⟨b,4,none⟩ x4).heap[b]? =some (.cells #[x0,x1,x2,x3,x4,z5,z6,z7,z8] t):=by rw[aO e3];rfl
 have e5:((((((w.setCell ⟨b,0,none⟩ x0).setCell ⟨b,1,none⟩ x1).setCell ⟨b,2,none⟩ x2).setCell ⟨b,3,none⟩ x3).setCell ⟨b,4,none⟩ x4).setCell ⟨b,5,none⟩ x5).heap[b]? =some (.cells #[x0,x1,x2,x3,x4,x5,z6,z7,z8] t):=by rw[aO e4];rfl
 have e6:(((((((w.setCell ⟨b,0,none⟩ x0).setCell ⟨b,1,none⟩ x1).setCell ⟨b,2,none⟩ x2).setCell ⟨b,3,none⟩ x3).setCell ⟨b,4,none⟩ x4).setCell ⟨b,5,none⟩ x5).setCell ⟨b,6,none⟩ x6).heap[b]? =some (.cells #[x0,x1,x2,x3,x4,x5,x6,z7,z8] t):=by rw[aO e5];rfl
 have e7:((((((((w.setCell ⟨b,0,none⟩ x0).setCell ⟨b,1,none⟩ x1).setCell ⟨b,2,none⟩ x2).setCell ⟨b,3,none⟩ x3).setCell ⟨b,4,none⟩ x4).setCell ⟨b,5,none⟩ x5).setCell ⟨b,6,none⟩ x6).setCell ⟨b,7,none⟩ x7).heap[b]? =some (.cells #[x0,x1,x2,x3,x4,x5,x6,x7,z8] t):=by rw[aO e6];rfl
 have e8:(((((((((w.setCell ⟨b,0,none⟩ x0).setCell ⟨b,1,none⟩ x1).setCell ⟨b,2,none⟩ x2).setCell ⟨b,3,none⟩ x3).setCell ⟨b,4,none⟩ x4).setCell ⟨b,5,none⟩ x5).setCell ⟨b,6,none⟩ x6).setCell ⟨b,7,none⟩ x7).setCell ⟨b,8,none⟩ x8).heap[b]? =some (.cells #[x0,x1,x2,x3,x4,x5,x6,x7,x8] t):=by rw[aO e7];rfl
 exact e8
theorem parse1_any(p:Prs)(w:World)(pv mb:Nat)(h:RunAt p w pv mb):Calls Tryz.prog 109 #[.pointer (some ⟨pv,0,none⟩),.pointer (some ⟨mb,0,none⟩)] w
  (Ran (fun k=>k=p.pb\/k=mb) w (gC p.l) fun m _ e w'=>e=.returned (.tuple #[])/\MdlAt w.heap.size w' mb m):=by
 obtain⟨v0,v1⟩:=bx h.hpv 0 (u:=.pointer (some ⟨p.pb,0,none⟩)) rfl;have HM:=zh (module_any p w h.at_);have HB:=zh h.hmb;have hmb:=(Array.getElem?_eq_some_iff.1 h.hmb).1;have pQ:=h.ne.1;clear h;go_enter Tryz.func109,Tryz.ntmps109;go_wp2_with(go_at_call 110;refine HM.out.mono ?_;rintro e w2 (⟨x,hx,rfl,ho⟩|⟨m,j,hx,⟨au,nu,du,av,nv,dv,ai,ni,di,af,nf,df,ao,no,do_,aw,nw,dw,ab,nb,db,rfl,hem,ha⟩,ho⟩)<;>have qM:=zh (ho.heap pQ HB.out)<;>obtain⟨⟨c0,c1,c2,c3,c4,c5,c6,c7,c8⟩,f0,f1,f2,f3,f4,f5,f6,f7,f8⟩:=bx9 qM.out)
 ·exact⟨rfl,Ran.bad' hx (ho.mono fun _ h=>.inl h)⟩
 ·have pU:=oQ w2 mb (.string m.name) (.slice au nu du) (.slice av nv dv) (.slice ai ni di) (.slice af nf df) (.bool m.moves) (.slice ao no do_) (.slice aw nw dw) (.slice ab nb db);have hh:=set9_heap (x0:=.string m.name) (x1:=.slice au nu du) (x2:=.slice av nv dv) (x3:=.slice ai ni di) (x4:=.slice af nf df) (x5:=.bool m.moves) (x6:=.slice ao no do_) (x7:=.slice aw nw dw) (x8:=.slice ab nb db) qM.out;have he:=encM_ok.off hem pU (fun b hb hn=>by have hb:b=mb:=hb;have hn:w.heap.size<=b:=hn;omega);unfold set9 at pU hh he;go_end0;exact Ran.good hx ⟨rfl,au,nu,du,av,nv,dv,ai,ni,di,af,nf,df,ao,no,do_,aw,nw,dw,ab,nb,db,hh,he⟩ ((ho.mono fun _ h=>.inl h).trans (pU.mono fun _ h=>.inr h))
def RunV(p:Prs)(w:World)(mb:Nat)(e:Ending)(w':World):Prop:=
 (∃x,gC p.l=.error x/\e=.returned (.tuple #[.int .i64 x.1,.int .i64 x.2])/\Off (fun k=>k=p.pb\/k=mb) w w')\/
 (∃m j,gC p.l=.ok (m,j)/\e=.returned (.tuple #[.int .i64 0,.int .i64 0])/\MdlAt w.heap.size w' mb m/\Off (fun k=>k=p.pb\/k=mb) w w')
theorem run_any(p:Prs)(w:World)(pv mb:Nat)(h:RunAt p w pv mb):Calls Tryz.prog 108 #[.pointer (some ⟨p.pb,0,none⟩),.func (.func 109) #[] #[.pointer (some ⟨pv,0,none⟩),.pointer (some ⟨mb,0,none⟩)]] w (RunV p w mb):=by
 have hmf:∀(fn:Fn)(first cap:Array Value)(w:World),(Instr.makeFunc fn first cap).run Tryz.prog w=.ok (.func fn first cap) w:=fun _ _ _ _=>rfl;have hz:(w.alloc (.cells #[.int .i64 0] 3)).heap.size=w.heap.size+1:=VL;have h2:=h.later (aB (aA w (.cells #[.int .i64 0] 3)) (aA (w.alloc (.cells #[.int .i64 0] 3)) (.cells #[.int .i64 0] 32)));have HA:=zh (aF (aA (w.alloc (.cells #[.int .i64 0] 3)) (.cells #[.int .i64 0] 32)) (heap_alloc_new w (.cells #[.int .i64 0] 3)));have Q0:=heap_alloc_new (w.alloc (.cells #[.int .i64 0] 3)) (.cells #[.int .i64 0] 32);rw[hz] at Q0;have HB:=zh Q0;have HO:=zh (Off.of_below (S:=fun k=>k=p.pb\/k=mb) (aB (aA w (.cells #[.int .i64 0] 3)) (aA (w.alloc (.cells #[.int .i64 0] 3)) (.cells #[.int .i64 0] 32))));have HP:=zh (parse1_any p _ pv mb h2);have tZ:=h.at_.blt;have hmb:=(Array.getElem?_eq_some_iff.1 h.hmb).1;clear h2 Q0 h
 go_enter_defers Tryz.func108,Tryz.ntmps108
 go_wp2_with(go_at_call 109;refine HP.out.mono ?_;rintro e w2 (⟨x,hx,rfl,ho⟩|⟨m,j,hx,⟨rfl,hm⟩,ho⟩)<;>have BK:=zh (ho.heap (fun e=>VY) HA.out)<;>have qM:=zh (ho.heap (fun e=>VY) HB.out)<;>obtain⟨a0,a1⟩:=bx BK.out 0 (u:=.int .i64 0) rfl<;>obtain⟨b0,b1⟩:=bx qM.out 0 (u:=.int .i64 0) rfl)
 ·clear a0 a1 b0 b1;refine leaves_cons (f:=130) (args:=#[.pointer (some ⟨w.heap.size,0,none⟩),.pointer (some ⟨w.heap.size+1,0,none⟩)]) VL (by simp[go_sem]) ?_;refine(catch_fault w.heap.size (w.heap.size+1) x [] w2 BK.out qM.out).mono ?_;rintro e u' w4 ⟨rfl,rfl,pW,h1,h3⟩;obtain⟨a0,a1⟩:=bx h1 0 (u:=.int .i64 x.1) rfl;obtain⟨b0,b1⟩:=bx h3 0 (u:=.int .i64 x.2) rfl;simp[Leaves,settle,results,Tryz.results108,go_sem,a0,b0];exact .inl ⟨x,hx,rfl,Off.fresh (((HO.out.trans ho).or w.heap.size).trans (pW.mono fun k hk=>.inr (by rcases hk with e|e<;>omega))) (Nat.le_refl _)⟩
 ·refine leaves_cons (f:=130) (args:=#[.pointer (some ⟨w.heap.size,0,none⟩),.pointer (some ⟨w.heap.size+1,0,none⟩)]) VL (by simp[go_sem]) ?_;refine(catch_idle w.heap.size (w.heap.size+1) _).mono ?_;rintro e u' w4 ⟨rfl,rfl,rfl⟩;simp[Leaves,settle,results,Tryz.results108,go_sem,a0,b0];have oz:Off (fun k=>k=w.heap.size\/k=w.heap.size+1) w2 ((w2.setCell ⟨w.heap.size,0,none⟩ (.int .i64 0)).setCell ⟨w.heap.size+1,0,none⟩ (.int .i64 0)):=(Off.setCell (S:=fun k=>k=w.heap.size\/k=w.heap.size+1) w2 (.inl rfl)).trans (Off.setCell (S:=fun k=>k=w.heap.size\/k=w.heap.size+1) _ (.inr rfl));have qH:((w.alloc (.cells #[.int .i64 0] 3)).alloc (.cells #[.int .i64 0] 32)).heap.size=w.heap.size+2:=VL;exact .inr ⟨m,j,hx,rfl,hm.off oz (by rintro(e|e)<;>omega) (fun b hb hn=>by rw[qH] at hn;rcases hb with e|e<;>omega) (by rw[qH];omega),Off.fresh (((HO.out.trans ho).or w.heap.size).trans (oz.mono fun k hk=>.inr (by rcases hk with e|e<;>omega))) (Nat.le_refl _)⟩
def parseV(B:Nat)(r:Except (Int×Int) Mdl)(e:Ending)(w':World):Prop:=match r with
 | .error x=>e=.returned (.tuple #[.agg dN,.int .i64 x.1,.int .i64 x.2])
 | .ok m=>∃au nu du av nv dv ai ni di af nf df ao no do_ aw nw dw ab nb db,e=.returned (.tuple #[.agg #[.string m.name,.slice au nu du,.slice av nv dv,.slice ai ni di,.slice af nf df,.bool m.moves,.slice ao no do_,.slice aw nw dw,.slice ab nb db],.int .i64 0,.int .i64 0])/\
   encM (bD B) w' m [.string m.name,.slice au nu du,.slice av nv dv,.slice ai ni di,.slice af nf df,.bool m.moves,.slice ao no do_,.slice aw nw dw,.slice ab nb db]
theorem parseL_lex{s:ByteArray}{x:Int×Int}(h:lexL s=.error x):nC s=.error x:=by unfold nC;rw[h]
theorem parseL_bad{s:ByteArray}{l:List Tok}{x:Int×Int}(h:lexL s=.ok l)(hm:gC l=.error x):nC s=.error x:=by unfold nC;rw[h];simp only[hm]
theorem parseL_ok{s:ByteArray}{l:List Tok}{m:Mdl}{j:Nat}(h:lexL s=.ok l)(hm:gC l=.ok (m,j)):nC s=.ok m:=by unfold nC;rw[h];simp only[hm]
theorem prs_made{s:ByteArray}{l:List Tok}{b o c B pb:Nat}{w w':World}(ht:TokOk s l)(hs:s.size<=8000)(hc:l.length<=c/\c<=9223372036854775807)(hb:b<w.heap.size)
  (hr:∀i x,l[i]? =some x->∃cs,encTok (bD B) w x cs/\cs.length=4/\∀j u,cs[j]? =some u->w.cell? ⟨b,o+i*4+j,none⟩=some u) (rZ:Below w.heap.size w w')
  (tZ:w'.heap[pb]? =some (.cells #[.slice (some ⟨b,o,none⟩) l.length c,.int .i64 0] 162)) (hge:w.heap.size<=pb) (hg:dH w') (LD:Lib.TabIs Tryz.prog w' "strings.asciiSpace" .u8 Lib.asciiSpaceTab) (h11:11<=w.heap.size):
  Prs.At ⟨l,b,o,c,pb⟩ w' 0:=by
 refine⟨tZ,fun k t hk=>?_,by show b≠pb;omega,ht.pos,by have:=ht.len;show l.length<=8001;omega,hc,fun k t hk hn=>ht.last k t hk hn,hg,LD,fun k hk=>by show k≠pb;omega⟩;obtain⟨cs,⟨rfl,hz⟩,-,hj⟩:=hr k t hk;exact⟨⟨aC rZ (hj 0 _ rfl),aC rZ (hj 1 _ rfl),aC rZ (hj 2 _ rfl),aC rZ (hj 3 _ rfl)⟩,hz⟩
theorem pM{w w2 w':World}(h:Below w.heap.size w w2)(ho:Off (fun k=>w.heap.size<=k) w2 w'):Below w.heap.size w w':=
 ⟨ho.os.trans h.os,ho.tape.trans h.tape,ho.output.trans h.output,Nat.le_trans h.size ho.size,fun k hk=>(ho.block k (by have:=h.size;omega) (fun e=>by have e:w.heap.size<=k:=e;omega)).trans (h.block k hk)⟩
theorem aK.pos{α:Type}{k:Nat}{enc:(Nat->Prop)->World->α->List Value->Prop}{N:Nat->Prop}{w:World}{v:Value}{l:List α}(hk:0<k)(h:aK k enc N w v l)(hp:0<l.length):∃b o c,v=.slice (some ⟨b,o,none⟩) l.length c/\l.length<=c/\c<=9223372036854775807/\b<w.heap.size/\
  ∀i x,l[i]? =some x->∃cs,enc N w x cs/\cs.length=k/\∀j u,cs[j]? =some u->w.cell? ⟨b,o+i*k+j,none⟩=some u:=by
 rcases h.cases hk with⟨rfl,-⟩|⟨b,o,c,h1,h2,h3,h4,h5,h6,h7⟩
 ·simp at hp
 ·exact⟨b,o,c,h1,h3,h4,h5,h7⟩
theorem lexL_size{s:ByteArray}{l:List Tok}(h:lexL s=.ok l):s.size<=8000:=by
 unfold lexL at h;split at h
 ·cases h
 ·omega
theorem parse_any(s:ByteArray)(w:World)(hs:s.size<=140737488355328)(hg:dH w)(hsg:SignsAt w)(LD:Lib.TabIs Tryz.prog w "strings.asciiSpace" .u8 Lib.asciiSpaceTab):
  Calls Tryz.prog 84 #[.string s] w fun e w'=>parseV w.heap.size (nC s) e w'/\Below w.heap.size w w':=by
 have hmf:∀(fn:Fn)(first cap:Array Value)(w:World),(Instr.makeFunc fn first cap).run Tryz.prog w=.ok (.func fn first cap) w:=fun _ _ _ _=>rfl;have h11:=hg.big;have E8:=zh (aA w (.cells dN 132));have HLx:=zh (lex_any s (w.alloc (.cells dN 132)) hs (hsg.later E8.out));have HG:=zh (fun w'(hb:Below w.heap.size w w')=>hg.later hb);have pZ:=zh (fun w'(hb:Below w.heap.size w w')=>spc_off LD hg.big (Off.of_below (S:=fun _=>False) hb) (fun _ _ h=>h));have uK:(w.alloc (.cells dN 132)).heap.size=w.heap.size+1:=VL;clear hg hsg LD
 cases hl:lexL s with
 |error x=>
  have rA:(x.2 != 0)=true:=by rw[bne_iff_ne];exact lexL_nz hl
  have HR:=zh (parseL_lex hl);rw[hl] at HLx;clear hl;go_enter Tryz.func84,Tryz.ntmps84;go_wp2_with(go_at_call 107;refine HLx.out.mono ?_;rintro e w2 ⟨he,pR⟩;obtain rfl:e=.returned (.tuple #[.slice none 0 0,.int .i64 x.1,.int .i64 x.2]):=he;obtain⟨⟨c0,c1,c2,c3,c4,c5,c6,c7,c8⟩,f0,f1,f2,f3,f4,f5,f6,f7,f8⟩:=bx9 (aF pR (heap_alloc_new w (.cells dN 132))));refine bodyPost_ret (v:=.tuple #[.agg dN,.int .i64 x.1,.int .i64 x.2]) (by simp[results,Tryz.results84,go_sem,c0,c1,c2,c3,c4,c5,c6,c7,c8]) rfl ⟨WM,?_⟩;have ho:=oQ w2 w.heap.size (.string ⟨#[]⟩) (.slice none 0 0) (.slice none 0 0) (.slice none 0 0) (.slice none 0 0) (.bool false) (.slice none 0 0) (.slice none 0 0) (.slice none 0 0);unfold set9 at ho;exact pM (aB E8.out pR) (ho.mono fun k hk=>Nat.le_of_eq (Eq.symm hk))
 |ok l=>
  have hs8:=lexL_size hl;have HE:=zh (fun x hx=>parseL_bad (x:=x) hl hx);have HK:=zh (fun m j hx=>parseL_ok (m:=m) (j:=j) hl hx);rw[hl] at HLx;clear hl;go_enter Tryz.func84,Tryz.ntmps84;go_wp2_with(first|(go_at_call 108;refine(run_any ⟨l,b,o,c,w2.heap.size+1⟩ ((((w2.alloc (.cells dN 132)).alloc (.cells #[.slice (some ⟨b,o,none⟩) l.length c,.int .i64 0] 162)).alloc (.cells #[.pointer (some ⟨w2.heap.size+1,0,none⟩)] 160))) (w2.heap.size+2) w2.heap.size MU.out).mono ?_;rintro e w6 (⟨x,hx,rfl,ho⟩|⟨m,j,hx,rfl,hm,ho⟩)<;>have DK:=zh (ho.heap (fun e=>Or.elim e (fun e=>by have e:w.heap.size=w2.heap.size+1:=e;omega) (fun e=>by have e:w.heap.size=w2.heap.size:=e;omega)) HRes.out)<;>obtain⟨⟨r0,r1,r2,r3,r4,r5,r6,r7,r8⟩,g0,g1,g2,g3,g4,g5,g6,g7,g8⟩:=bx9 DK.out<;>first|(have rA:(x.2 != 0)=true:=by rw[bne_iff_ne];exact module_nz x hx)|(obtain⟨au,nu,du,av,nv,dv,ai,ni,di,af,nf,df,ao,no,do_,aw,nw,dw,ab,nb,db,qZ,hem⟩:=hm;obtain⟨⟨d0,d1,d2,d3,d4,d5,d6,d7,d8⟩,e0,e1,e2,e3,e4,e5,e6,e7,e8⟩:=bx9 qZ))|(go_at_call 107;refine HLx.out.mono ?_;rintro e w2 ⟨he,pR⟩;obtain⟨v,rfl,qO,rP⟩:=he;obtain⟨b,o,c,rfl,GR,rB,hb,tJ⟩:=qO.pos VI rP.pos;have qH:=pR.size;have B3:=aA w2 (.cells dN 132);have B4:=aA (w2.alloc (.cells dN 132)) (.cells #[.slice (some ⟨b,o,none⟩) l.length c,.int .i64 0] 162);have B5:=aA ((w2.alloc (.cells dN 132)).alloc (.cells #[.slice (some ⟨b,o,none⟩) l.length c,.int .i64 0] 162)) (.cells #[.pointer (some ⟨w2.heap.size+1,0,none⟩)] 160);have z3:(w2.alloc (.cells dN 132)).heap.size=w2.heap.size+1:=VL;have z4:((w2.alloc (.cells dN 132)).alloc (.cells #[.slice (some ⟨b,o,none⟩) l.length c,.int .i64 0] 162)).heap.size=w2.heap.size+2:=VL;have QZ:=zh (aB B3 (aB B4 B5));have KO:=zh (aB (aB E8.out pR) QZ.out);have hp1:=heap_alloc_new (w2.alloc (.cells dN 132)) (.cells #[.slice (some ⟨b,o,none⟩) l.length c,.int .i64 0] 162);have hp2:=heap_alloc_new ((w2.alloc (.cells dN 132)).alloc (.cells #[.slice (some ⟨b,o,none⟩) l.length c,.int .i64 0] 162)) (.cells #[.pointer (some ⟨w2.heap.size+1,0,none⟩)] 160);rw[z3] at hp1;rw[z4] at hp2;have MU:Hid (RunAt ⟨l,b,o,c,w2.heap.size+1⟩ (((w2.alloc (.cells dN 132)).alloc (.cells #[.slice (some ⟨b,o,none⟩) l.length c,.int .i64 0] 162)).alloc (.cells #[.pointer (some ⟨w2.heap.size+1,0,none⟩)] 160)) (w2.heap.size+2) w2.heap.size):=zh ⟨prs_made rP hs8 ⟨GR,rB⟩ hb tJ QZ.out (aF B5 hp1) VG (HG.out _ KO.out) (pZ.out _ KO.out) VG,hp2,aF (aB B4 B5) (heap_alloc_new w2 _),by show w2.heap.size≠w2.heap.size+1;omega,by show w2.heap.size+2≠w2.heap.size+1;omega,VG⟩;have HRes:=zh (aF (aB pR QZ.out) (heap_alloc_new w (.cells dN 132)));clear hp1 hp2 B3 B4 B5 z3 z4 tJ qO rP))
  ·have hB6:=pM KO.out (ho.mono (S':=fun k=>w.heap.size<=k) fun k hk=>Or.elim hk (fun e=>by have e:k=w2.heap.size+1:=e;omega) (fun e=>by have e:k=w2.heap.size:=e;omega));refine bodyPost_ret (v:=.tuple #[.agg dN,.int .i64 x.1,.int .i64 x.2]) Y7 rfl ⟨by rw[HE.out x hx];rfl,?_⟩;have tQ:=oQ w6 w.heap.size (.string ⟨#[]⟩) (.slice none 0 0) (.slice none 0 0) (.slice none 0 0) (.slice none 0 0) (.bool false) (.slice none 0 0) (.slice none 0 0) (.slice none 0 0);unfold set9 at tQ;exact pM hB6 (tQ.mono fun k hk=>Nat.le_of_eq (Eq.symm hk))
  ·have hB6:=pM KO.out (ho.mono (S':=fun k=>w.heap.size<=k) fun k hk=>Or.elim hk (fun e=>by have e:k=w2.heap.size+1:=e;omega) (fun e=>by have e:k=w2.heap.size:=e;omega));have xT:=QZ.out.size;have tQ:=oQ w6 w.heap.size (.string m.name) (.slice au nu du) (.slice av nv dv) (.slice ai ni di) (.slice af nf df) (.bool m.moves) (.slice ao no do_) (.slice aw nw dw) (.slice ab nb db);have hem9:=encM_ok.wide (N':=bD w.heap.size) (encM_ok.off hem tQ (fun b' qU hn=>by have qU:b'=w.heap.size:=qU;have hn:=Nat.le_trans xT hn;omega)) (fun b' qU _=>by have hn:=Nat.le_trans xT qU;show w.heap.size<=b';omega);unfold set9 at tQ hem9;refine bodyPost_ret (v:=.tuple #[.agg #[.string m.name,.slice au nu du,.slice av nv dv,.slice ai ni di,.slice af nf df,.bool m.moves,.slice ao no do_,.slice aw nw dw,.slice ab nb db],.int .i64 0,.int .i64 0]) Y7 rfl ⟨?_,pM hB6 (tQ.mono fun k hk=>Nat.le_of_eq (Eq.symm hk))⟩;rw[HK.out m j hx];exact⟨au,nu,du,av,nv,dv,ai,ni,di,af,nf,df,ao,no,do_,aw,nw,dw,ab,nb,db,rfl,hem9⟩
theorem UC{p:Prop}(h:p:=by
 go_wp2_with fail;go_ret
 exact⟨aD (by rw[HT.out,<-HD.out]),HB.out⟩):p:=h
theorem U2{p:Prop}(h:p:=by
 go_roundw;case rel=>exact⟨q+1,VG,VT,zh (aB HB.out (aB (aA _ _) pS)),uO⟩
 case measure=>simp[intOf];omega):p:=h
def RightTyAll:Prop:=∀(d:Nat)(t:Ty)(N:Nat->Prop)(k:Int)(vf:Value)(w:World),d<=100->dH w->iN N w t [.int .i64 k,vf]->
  Calls Tryz.prog 197 #[.agg #[.int .i64 k,vf],.int .i64 (d:Int)] w fun e w'=>e=.returned (.bool (bX d t))/\Below w.heap.size w w'
def RightXpAll:Prop:=∀(d:Nat)(x:Xp)(N:Nat->Prop)(op n:Int)(s m:ByteArray)(vn va:Value)(w:World),d<=100->dH w->bV N w x [.int .i64 op,.int .i64 n,.string s,.string m,vn,va]->
  Calls Tryz.prog 198 #[.agg #[.int .i64 op,.int .i64 n,.string s,.string m,vn,va],.int .i64 (d:Int)] w fun e w'=>e=.returned (.bool (aT d x))/\Below w.heap.size w w'
theorem RightType_any(hT:RightTyAll)(t:Ty)(N:Nat->Prop)(k:Int)(vf:Value)(w:World)(hg:dH w)(he:iN N w t [.int .i64 k,vf]):
  Calls Tryz.prog 149 #[.agg #[.int .i64 k,vf]] w fun e w'=>e=.returned (.bool (bX 4 t))/\Below w.heap.size w w':=by
 have hb:=aA w (.cells #[.int .i64 k,vf] 175);have HT:=zh (hT 4 t N k vf _ VI (hg.later hb) (eS _ _ _ _ _ _ (bM.later hb) he));obtain⟨a,n,c,rfl⟩:=encT_slice he;generalize bX 4 t=r at *;clear hT hg he;go_enter Tryz.func149,Tryz.ntmps149;go_wp2_with(go_at_call 197;refine HT.out.mono ?_;rintro e w2 ⟨rfl,pR⟩);go_ret;exact⟨rfl,aB hb pR⟩
theorem kP{N:Nat->Prop}{w:World}{x:Xp}{op n:Int}{s m:ByteArray}{vn va:Value}(h:bV N w x [.int .i64 op,.int .i64 n,.string s,.string m,vn,va]):(∃a n c,vn=.slice a n c)/\∃a n c,va=.slice a n c:=by
 cases x with
 |mk op' n' s' m' names args=>
  rw[aZ] at h;obtain⟨v1,v2,e,-,-,⟨a1,c1,h1,-⟩,⟨a2,c2,h2,-⟩⟩:=h;cases e;exact⟨⟨_,_,_,h1⟩,_,_,_,h2⟩
theorem RightExp_any(hX:RightXpAll)(x:Xp)(N:Nat->Prop)(op n:Int)(s m:ByteArray)(vn va:Value)(w:World)(hg:dH w)(he:bV N w x [.int .i64 op,.int .i64 n,.string s,.string m,vn,va]):
  Calls Tryz.prog 150 #[.agg #[.int .i64 op,.int .i64 n,.string s,.string m,vn,va]] w fun e w'=>e=.returned (.bool (aT 12 x))/\Below w.heap.size w w':=by
 have hb:=aA w (.cells #[.int .i64 op,.int .i64 n,.string s,.string m,vn,va] 177);have HT:=zh (hX 12 x N op n s m vn va _ VI (hg.later hb) (aG _ _ _ _ _ _ (bM.later hb) he));obtain⟨⟨a1,n1,c1,rfl⟩,a2,n2,c2,rfl⟩:=kP he;generalize aT 12 x=r at *;clear hX hg he;go_enter Tryz.func150,Tryz.ntmps150;go_wp2_with(go_at_call 198;refine HT.out.mono ?_;rintro e w2 ⟨rfl,pR⟩);go_ret;exact⟨rfl,aB hb pR⟩
theorem all_at{α:Type}{p:α->Bool}{l:List α}{q:Nat}{x:α}(hx:l[q]? =some x):(l.drop q).all p=(p x&&(l.drop (q+1)).all p):=by
 obtain⟨hk,he⟩:=List.getElem?_eq_some_iff.1 hx;rw[List.drop_eq_getElem_cons hk,he,List.all_cons]
theorem oI(hX:RightXpAll)(l:List Xp)(n:Nat)(N:Nat->Prop)(v:Value)(w:World)(hn:n<=1000)(hg:dH w)(he:aK 6 bV N w v l):
  Calls Tryz.prog 151 #[v,.int .i64 (n:Int)] w fun e w'=>e=.returned (.bool (fD l n))/\Below w.heap.size w w':=by
 have HG:=zh (fun W(hb:Below w.heap.size w W)=>hg.later hb);have HX:=zh hX;have A8:l.length<=9223372036854775807:=by obtain⟨_,_,_,h1,h2,-⟩:=he;omega
 have zL:(n:Int)<=1000:=VG;have HR:Hid (fD l n=(l.all (aT 12)&&decide (l.length=n))):=zh rfl;have HD:Hid (((l.length:Int)==(n:Int))=decide (l.length=n)):=zh WC;clear hg hX;rcases he.cases VI with⟨rfl,a,c,rfl⟩|⟨b,o,c,rfl,h0,h1,h2,hb,hN,hc⟩
 ·clear he;go_enter Tryz.func151,Tryz.ntmps151;go_wp2_with fail;go_loop [9] (fun i=>i=.int .i64 0) (fun _=>0)
  case atStart=>rfl
  case round=>
   subst hrel;go_wp2_with fail;go_ret;exact⟨aD (by rw[HR.out,<-HD.out];rfl),Below.refl _ _⟩
 ·have HC:=zh hc;clear hc he;go_enter Tryz.func151,Tryz.ntmps151;go_wp2_with fail;go_loopw [9] (fun iv wr=>∃q:Nat,q<=l.length/\iv=.int .i64 (q:Int)/\Hid (Below w.heap.size w wr)/\Hid (l.all (aT 12)=(l.drop q).all (aT 12))) (fun iv _=>l.length-(intOf iv).toNat)
  case atStart=>exact⟨0,Nat.zero_le _,rfl,zh (Below.refl _ _),zh rfl⟩
  case round=>
   obtain⟨q,hq,rfl,HB,pZ⟩:=hrel;(rename World=>wr);by_cases pT:q<l.length
   ·obtain⟨x,hx,-⟩:=getElem?_of_lt pT;obtain⟨cs,tI,-,hj⟩:=HC.out q x hx;have tC:=zh (pZ.out.trans (all_at hx))
    cases x with
    |mk uB n2 s2 m2 names2 args2=>
     have uY:=tI;rw[aZ] at uY;obtain⟨vn2,va2,rfl,-,-,uW,uV⟩:=uY;obtain⟨a1,OG,rfl,-⟩:=uW;obtain⟨a2,cc2,rfl,-⟩:=uV;have c0:wr.cell? ⟨b,o+q*6,none⟩=some (.int .i64 uB):=aC HB.out (hj 0 _ rfl);have c1:=aC HB.out (hj 1 _ rfl);have c2:=aC HB.out (hj 2 _ rfl);have c3:=aC HB.out (hj 3 _ rfl);have c4:=aC HB.out (hj 4 _ rfl);have c5:=aC HB.out (hj 5 _ rfl);have HL:=zh (fun W(h:Below w.heap.size w W)=>RightExp_any HX.out (.mk uB n2 s2 m2 names2 args2) N uB n2 s2 m2 _ _ W (HG.out W h) (aG _ _ _ _ _ _ (bM.later h) tI));clear hj tI hx;generalize aT 12 (.mk uB n2 s2 m2 names2 args2)=r0 at HL tC;generalize names2.length=ln at *;generalize args2.length=la at *
     cases r0 with
     |false=>
      have HF:Hid (fD l n=false):=zh (by rw[HR.out,tC.out];rfl);clear tC pZ;go_wp2_with(go_at_call 150;refine(HL.out _ (aB HB.out (aA _ _))).mono ?_;rintro e w1 ⟨rfl,pS⟩);go_ret;exact⟨aD WG,aB HB.out (aB (aA _ _) pS)⟩
     |true=>
      have uO:Hid (l.all (aT 12)=(l.drop (q+1)).all (aT 12)):=zh (by rw[tC.out];rfl);clear tC pZ;go_wp2_with(go_at_call 150;refine(HL.out _ (aB HB.out (aA _ _))).mono ?_;rintro e w1 ⟨rfl,pS⟩);exact U2
   ·have wY:q=l.length:=VG;have HT:Hid (fD l n=decide (l.length=n)):=zh (by rw[HR.out,pZ.out,wY,List.drop_length];rfl);exact UC
theorem TH{p:Prop}(h:p:=by
 go_enter Tryz.func225,Tryz.ntmps225;go_wp2_with fail;go_ret
 exact⟨aD (by rw[HR.out];decide),hb⟩):p:=h
theorem T3{p:Prop}(h:p:=by
 go_wp2_with fail;go_ret
 exact⟨aD WM,hb⟩):p:=h
def fG(x:Xp)(op n:Int)(s m:ByteArray)(vn va:Value)(w:World):Prop:=Calls Tryz.prog 225 #[.agg #[.int .i64 op,.int .i64 n,.string s,.string m,vn,va]] w fun e w'=>e=.returned (.bool (gX x))/\Below w.heap.size w w'
theorem leaf_0(n:Int)(s m:ByteArray)(names:List ByteArray)(args:List Xp)(a1:Option Addr)(n1 c1:Nat)(a2:Option Addr)(c2:Nat)(w:World)(hg:dH w)(hs:s.size<=8000)(hm:m.size<=8000):fG (.mk 0 n s m names args) 0 n s m (.slice a1 n1 c1) (.slice a2 args.length c2) w:=by
 unfold fG;have hb:=aA w (.cells #[.int .i64 0,.int .i64 n,.string s,.string m,.slice a1 n1 c1,.slice a2 args.length c2] 177);have HR:Hid (gX (.mk 0 n s m names args)=(decide (0<=n)&&decide (n<=1099511627776))):=zh rfl;clear hg;by_cases h1:0<=n
 ·by_cases h2:n<=1099511627776
  ·rw[decide_eq_true h1,decide_eq_true h2] at HR;go_enter Tryz.func225,Tryz.ntmps225;exact T3
  ·rw[decide_eq_true h1,decide_eq_false h2] at HR;go_enter Tryz.func225,Tryz.ntmps225;exact T3
 ·rw[decide_eq_false h1] at HR;go_enter Tryz.func225,Tryz.ntmps225;exact T3
theorem leaf_1(n:Int)(s m:ByteArray)(names:List ByteArray)(args:List Xp)(a1:Option Addr)(n1 c1:Nat)(a2:Option Addr)(c2:Nat)(w:World)(hg:dH w)(hs:s.size<=8000)(hm:m.size<=8000):fG (.mk 1 n s m names args) 1 n s m (.slice a1 n1 c1) (.slice a2 args.length c2) w:=by
 unfold fG;have hb:=aA w (.cells #[.int .i64 1,.int .i64 n,.string s,.string m,.slice a1 n1 c1,.slice a2 args.length c2] 177);have HR:Hid (gX (.mk 1 n s m names args)=(decide (n=0)||decide (n=1))):=zh rfl;clear hg;by_cases h0:n=0
 ·subst h0;exact TH
 ·have g0:(n==0)=false:=by rw[beq_eq_false_iff_ne];exact h0
  by_cases h1:n=1
  ·subst h1;exact TH
  ·have g1:(n==1)=false:=XG;go_enter Tryz.func225,Tryz.ntmps225;go_wp2_with fail;go_ret;exact⟨aD (by rw[HR.out];simp[h0,h1]),hb⟩
theorem leaf_16(n:Int)(s m:ByteArray)(names:List ByteArray)(args:List Xp)(a1:Option Addr)(n1 c1:Nat)(a2:Option Addr)(c2:Nat)(w:World)(hg:dH w)(hs:s.size<=8000)(hm:m.size<=8000):fG (.mk 16 n s m names args) 16 n s m (.slice a1 n1 c1) (.slice a2 args.length c2) w:=by
 unfold fG;have hb:=aA w (.cells #[.int .i64 16,.int .i64 n,.string s,.string m,.slice a1 n1 c1,.slice a2 args.length c2] 177);have HR:Hid (gX (.mk 16 n s m names args)=(decide (n=1)||decide (n=2)||decide (n=4)||decide (n=8))):=zh rfl;clear hg;by_cases h1:n=1
 ·subst h1;exact TH
 ·have g1:(n==1)=false:=XG;by_cases h2:n=2
  ·subst h2;exact TH
  ·(have g2:(n==2)=false:=by rw[beq_eq_false_iff_ne];exact h2);by_cases h4:n=4
   ·subst h4;exact TH
   ·(have g4:(n==4)=false:=by rw[beq_eq_false_iff_ne];exact h4);by_cases h8:n=8
    ·subst h8;exact TH
    ·(have g8:(n==8)=false:=by rw[beq_eq_false_iff_ne];exact h8);go_enter Tryz.func225,Tryz.ntmps225;go_wp2_with fail;go_ret;exact⟨aD (by rw[HR.out];simp[h1,h2,h4,h8]),hb⟩
theorem pC(op:Int)(ho:op=2\/op=17\/op=18\/op=14\/op=12)(n:Int)(s m:ByteArray)(names:List ByteArray)(args:List Xp)(a1:Option Addr)(n1 c1:Nat)(a2:Option Addr)(c2:Nat)(w:World)(hg:dH w)(hs:s.size<=8000)(hm:m.size<=8000):fG (.mk op n s m names args) op n s m (.slice a1 n1 c1) (.slice a2 args.length c2) w:=by
 unfold fG;have hb:=aA w (.cells #[.int .i64 op,.int .i64 n,.string s,.string m,.slice a1 n1 c1,.slice a2 args.length c2] 177);have HR:Hid (gX (.mk op n s m names args)=aP s):=zh (by rcases ho with rfl|rfl|rfl|rfl|rfl<;>rfl);have HS:=zh (iS s _ VG (hg.later hb));generalize aP s=r at *;clear hg;rcases ho with rfl|rfl|rfl|rfl|rfl
 all_goals
  go_enter Tryz.func225,Tryz.ntmps225;go_wp2_with(go_at_call 147;refine HS.out.mono ?_;rintro e w2 ⟨rfl,rfl⟩);go_ret;exact⟨aD (by rw[HR.out]),hb⟩
theorem leaf_15(n:Int)(s m:ByteArray)(names:List ByteArray)(args:List Xp)(a1:Option Addr)(n1 c1:Nat)(a2:Option Addr)(c2:Nat)(w:World)(hg:dH w)(hs:s.size<=8000)(hm:m.size<=8000):fG (.mk 15 n s m names args) 15 n s m (.slice a1 n1 c1) (.slice a2 args.length c2) w:=by
 unfold fG;have hb:=aA w (.cells #[.int .i64 15,.int .i64 n,.string s,.string m,.slice a1 n1 c1,.slice a2 args.length c2] 177);have HR:Hid (gX (.mk 15 n s m names args)=(aP s&&(decide (m=noB)||aP m)&&decide (args.length<=6))):=zh rfl;have HS:=zh (iS s _ VG (hg.later hb));have HM:=zh (iS m _ VG (hg.later hb));clear hg;have HL:Hid (decide ((args.length:Int)<=6)=decide (args.length<=6)):=zh WC
 cases sT:aP s with
 |false=>
  rw[sT] at HS HR;clear HM sT;go_enter Tryz.func225,Tryz.ntmps225;go_wp2_with fail;go_at_call 147;refine HS.out.mono ?_;rintro e w2 ⟨rfl,rfl⟩;exact T3
 |true=>
  rw[sT] at HS HR;clear sT;by_cases qT:m=noB
  ·subst qT;clear HM;go_enter Tryz.func225,Tryz.ntmps225;go_wp2_with fail;go_at_call 147;refine HS.out.mono ?_;rintro e w2 ⟨rfl,rfl⟩;go_wp2_with fail;go_ret;exact⟨aD (by rw[HR.out];rw[<-HL.out];rfl),hb⟩
  ·have xB:(m.toList==[])=false:=VU;rw[decide_eq_false qT] at HR;clear qT
   cases IG:aP m with
   |false=>
    rw[IG] at HM HR;clear IG;go_enter Tryz.func225,Tryz.ntmps225;go_wp2_with fail;go_at_call 147;refine HS.out.mono ?_;rintro e w2 ⟨rfl,rfl⟩;go_wp2_with fail;go_at_call 147;refine HM.out.mono ?_;rintro e w3 ⟨rfl,rfl⟩;exact T3
   |true=>
    rw[IG] at HM HR;clear IG;go_enter Tryz.func225,Tryz.ntmps225;go_wp2_with fail;go_at_call 147;refine HS.out.mono ?_;rintro e w2 ⟨rfl,rfl⟩;go_wp2_with fail;go_at_call 147;refine HM.out.mono ?_;rintro e w3 ⟨rfl,rfl⟩;go_wp2_with fail;go_ret;exact⟨aD (by rw[HR.out];rw[<-HL.out];rfl),hb⟩
theorem jP(op:Int)(ho:op=3\/op=4\/op=5\/op=6\/op=7\/op=8\/op=9\/op=10\/op=11)(n:Int)(s m:ByteArray)(names:List ByteArray)(args:List Xp)(a1:Option Addr)(n1 c1:Nat)(a2:Option Addr)(c2:Nat)(w:World)(hg:dH w)(hs:s.size<=8000)(hm:m.size<=8000):fG (.mk op n s m names args) op n s m (.slice a1 n1 c1) (.slice a2 args.length c2) w:=by
 unfold fG;have hb:=aA w (.cells #[.int .i64 op,.int .i64 n,.string s,.string m,.slice a1 n1 c1,.slice a2 args.length c2] 177);have HR:Hid (gX (.mk op n s m names args)=true):=zh (by rcases ho with rfl|rfl|rfl|rfl|rfl|rfl|rfl|rfl|rfl<;>rfl);clear hg;rcases ho with rfl|rfl|rfl|rfl|rfl|rfl|rfl|rfl|rfl
 all_goals
  go_enter Tryz.func225,Tryz.ntmps225;go_wp2_with fail;go_ret;exact⟨aD (by rw[HR.out]),hb⟩
theorem S8{p:Prop}(h:p:=by
 try simp only[zn]
 refine zt 19 (.bool true) rfl (fun W hW=>VM) hS ?_;try simp only[zn]
 refine zt 20 (.bool true) rfl (fun W hW=>VM) hS ?_;try simp only[zn]
 refine zu 21 rfl hS ?_;try simp only[zn]
 refine zu 22 rfl hS ?_;try simp only[zn]
 refine zu 23 rfl hS ?_;try simp only[zn]
 refine zu 24 rfl hS ?_;try simp only[zn]
 refine zu 25 rfl hS ?_;try simp only[zn]
 refine zu 26 rfl hS ?_;try simp only[zn]
 refine zt 27 (.bool true) rfl (fun W hW=>VM) hS ?_;try simp only[zn]
 refine wpAnyH_done VH ?_ _;go_wp2_with fail;go_ret
 exact⟨aD WG,aB HB.out (aB (aA _ _) (aE _))⟩):p:=h
theorem TV{p:Prop}(h:p:=by
 go_enter Tryz.func197,Tryz.ntmps197;go_wp2_with fail;go_ret
 exact⟨aD WG,aA _ _⟩):p:=h
theorem T7{p:Prop}(h:p:=by
 go_enter Tryz.func197,Tryz.ntmps197;go_wp2_with fail;go_loop [39] (fun i=>i=.int .i64 0) (fun _=>0)
 case atStart=>rfl
 case round=>
  subst hrel;go_wp2_with fail;go_ret
  exact⟨aD (by rw[HT.out]),aA _ _⟩):p:=h
theorem UI{p:Prop}(h:p:=by
 obtain⟨hk,he⟩:=List.getElem?_eq_some_iff.1 hx
 rw[List.drop_eq_getElem_cons hk,he];rfl):p:=h
theorem UU{p:Prop}(h:p:=by
 have HF:Hid (bX (d+1) (.mk kind fs)=false):=zh (by rw[uO.out];rfl);clear uO;go_wp2_with fail;go_ret
 exact⟨aD WG,zH.out⟩):p:=h
theorem fieldsOk_at{p:Ty->Bool}{fs:List Fld}{q:Nat}{nm:ByteArray}{t:Ty}(hx:fs[q]? =some (nm,t))(before:Option ByteArray):iM p before (fs.drop q)=(aP nm&&(match before with|none=>true|some b=>gtB nm b)&&p t&&iM p (some nm) (fs.drop (q+1))):=by
 exact UI
def nA(fs:List Fld)(q:Nat):Option ByteArray:=if q=0 then none else(fs[q-1]?).map (·.1)
theorem nT(t:TypeId)(a b:ByteArray)(w:World):(binOp .leq t (.string a) (.string b)).run Tryz.prog w=.ok (.bool (!gtB a b)) w:=by
 simp[binOp,Op.stringOp,gtB]
def RightTyAt(d:Nat):Prop:=∀(t:Ty)(N:Nat->Prop)(k:Int)(vf:Value)(w:World),d<=100->dH w->iN N w t [.int .i64 k,vf]->
  Calls Tryz.prog 197 #[.agg #[.int .i64 k,vf],.int .i64 (d:Int)] w fun e w'=>e=.returned (.bool (bX d t))/\Below w.heap.size w w'
theorem rightType_zero:RightTyAt 0:=by
  intro t N k vf w _ hg he
  cases t with
  |mk kind fs=>
   have HR:Hid (bX 0 (.mk kind fs)=false):=zh rfl;obtain⟨a,n,c,rfl⟩:=encT_slice he;clear he hg;go_enter Tryz.func197,Tryz.ntmps197;go_wp2_with fail;go_ret;exact⟨aD (by rw[HR.out]),aA _ _⟩
theorem rightType_step(d:Nat)(IH:RightTyAt d):RightTyAt (d+1):=by
  rintro⟨kind,fs⟩ N k' vf w hd hg he;have LY:=he;rw[gE] at he;obtain⟨vf',hv,hr⟩:=he;cases hv;have R4:=zh (fun t N k vf w h2 h3=>IH t N k vf w VG h2 h3);have HG:=zh (fun W(hb:Below w.heap.size w W)=>hg.later hb);have HE0:=zh LY;have vP:((d+1:Nat):Int)=(d:Int)+1:=VG;rw[vP];have hd0:((d:Int)+1==0)=false:=VQ;have hd1:(d:Int)<=100:=VG;have HR:Hid (bX (d+1) (.mk kind fs)=(decide (0<=kind)&&decide (kind<3)&&decide (fs.length<=8)&&(decide (kind=2)||decide (fs.length=0))&&iM (bX d) none fs)):=zh rfl;clear vP hg LY
  have tD:Hid (¬(0<=kind/\kind<3/\fs.length<=8/\(kind=2\/fs.length=0))->bX (d+1) (.mk kind fs)=false):=zh (fun h=>by
   rw[HR.out]
   cases hb:(decide (0<=kind)&&decide (kind<3)&&decide (fs.length<=8)&&(decide (kind=2)||decide (fs.length=0))&&iM (bX d) none fs) with
   |false=>rfl
   |true=>
    simp only[Bool.and_eq_true,Bool.or_eq_true,decide_eq_true_eq] at hb
    exact absurd ⟨hb.1.1.1.1,hb.1.1.1.2,hb.1.1.2,hb.1.2⟩ h)
  obtain⟨a,c,rfl,LS⟩:∃a c,vf=.slice a fs.length c/\fs.length<=c:=by obtain⟨a,c,h1,h2,-⟩:=hr;exact⟨a,c,h1,h2⟩
  have A8:fs.length<=9223372036854775807:=Y5;by_cases g1:0<=kind
  ·have g1':¬kind<0:=VG;by_cases g2:kind<3
   ·have g2':¬3<=kind:=VG;by_cases g3:fs.length<=8
    ·have g3':¬(8:Int)<(fs.length:Int):=VG;by_cases g4:kind=2\/fs.length=0
     ·have EF:Hid (bX (d+1) (.mk kind fs)=iM (bX d) none fs):=zh (by rw[HR.out,decide_eq_true g1,decide_eq_true g2,decide_eq_true g3];rcases g4 with h|h<;>simp[h]);have LI:=hr.cases VI;clear tD HR;rcases LI with⟨rfl,a',c',hv⟩|⟨b,o,c',hv,h0,h1,h2,hb,hN,hc⟩
      ·have HT:Hid (bX (d+1) (.mk kind [])=true):=zh EF.out;clear EF hv hr LS A8 g4 g3 g3';by_cases g5:kind=2
       ·(have h5:(kind != 2)=false:=by rw[bne_eq_false_iff_eq];exact g5);clear g5;exact T7
       ·(have h5:(kind != 2)=true:=by rw[bne_iff_ne];exact g5);exact T7
      ·cases hv;(have hk:kind=2:=by rcases g4 with h|h;(exact h);omega);(have h5:(kind != 2)=false:=by rw[bne_eq_false_iff_eq];exact hk);have HC:=zh hc;have DN:=zh (heap_alloc_new w (.cells #[.int .i64 kind,.slice (some ⟨b,o,none⟩) fs.length c] 175));clear hc hr g4 hk;go_enter Tryz.func197,Tryz.ntmps197;go_wp2_with fail;(go_loopw [39] (fun iv wr=>∃q:Nat,q<=fs.length/\iv=.int .i64 (q:Int)/\Hid (Below (w.alloc (.cells #[.int .i64 kind,.slice (some ⟨b,o,none⟩) fs.length c] 175)).heap.size (w.alloc (.cells #[.int .i64 kind,.slice (some ⟨b,o,none⟩) fs.length c] 175)) wr)/\Hid (bX (d+1) (.mk kind fs)=iM (bX d) (nA fs q) (fs.drop q))) (fun iv _=>fs.length-(intOf iv).toNat));case atStart=>exact⟨0,Nat.zero_le _,rfl,zh (Below.refl _ _),EF⟩
       case round=>
        obtain⟨q,hq,rfl,qQ,pZ⟩:=hrel;(rename World=>wr);have HB:=zh (aB (aA w (.cells #[.int .i64 kind,.slice (some ⟨b,o,none⟩) fs.length c] 175)) qQ.out);by_cases pT:q<fs.length
        ·obtain⟨x,hx,-⟩:=getElem?_of_lt pT;obtain⟨cs,⟨ct,rfl,hn,tI⟩,-,hj⟩:=HC.out q x hx;obtain⟨nm,ty⟩:=x
         cases ty with
         |mk k2 f2=>
          have uY:=tI;rw[gE] at uY;obtain⟨vf2,rfl,uV⟩:=uY;obtain⟨a2,c2,rfl,-⟩:=uV;generalize f2.length=n2 at *;have p0:wr.cell? ⟨b,o+q*3,none⟩=some (.string nm):=aC HB.out (hj 0 _ rfl);have p1:=aC HB.out (hj 1 _ rfl);have p2:=aC HB.out (hj 2 _ rfl);have HL:=zh (fun W(h:Below w.heap.size w W)=>R4.out (.mk k2 f2) N k2 _ W (HG.out W h) (eS _ _ _ _ _ _ (bM.later h) tI));have tC:=zh (pZ.out.trans (fieldsOk_at hx (nA fs q)));(have hpv:nA fs (q+1)=some nm:=by unfold nA;rw[if_neg VG,Nat.add_sub_cancel,hx];rfl);rw[<-hpv] at tC;have qX:nm.size<=8000:=hn;clear hj hpv tI hn;generalize bX d (.mk k2 f2)=r0 at HL tC;go_wp2_with fail;obtain⟨q0,q1,q2,-⟩:=bxT3 (heap_alloc_new wr (.cells #[.string nm,.int .i64 k2,.slice a2 n2 c2] 184));obtain⟨t0,t1,-⟩:=bxT2 (aF (aB qQ.out (aA wr (.cells #[.string nm,.int .i64 k2,.slice a2 n2 c2] 184))) DN.out)
          cases sT:aP nm with
          |false=>
           have HF:Hid (bX (d+1) (.mk kind fs)=false):=zh (by rw[tC.out,sT];rfl);clear tC pZ;refine wp_region_held_drew (S:=(fun W=>Below (wr.alloc (.cells #[.string nm,.int .i64 k2,.slice a2 n2 c2] 184)).heap.size (wr.alloc (.cells #[.string nm,.int .i64 k2,.slice a2 n2 c2] 184)) W)) VH (aE _) fun hS=>?_;refine zt 0 (.pointer (some ⟨wr.heap.size,0,none⟩)) rfl (fun W hW=>VM) hS ?_;(try simp only[zn]);refine zt 1 (.string nm) rfl (fun W hW=>VP) hS ?_;(try simp only[zn]);refine zr 2 rfl (fun K hK=>?_);(try simp only[z1,z2,z3]);go_simp;refine(iS nm (wr.alloc (.cells #[.string nm,.int .i64 k2,.slice a2 n2 c2] 184)).drew VG (HG.out _ (aB HB.out (aB (aA _ _) (aE _))))).mono ?_;rintro e w5 ⟨rfl,rfl⟩;rw[sT];refine hK.out _ _ hS (fun hS=>?_);clear hK K;(try simp only[zn]);refine zt 3 (.bool true) rfl (fun W hW=>VM) hS ?_;(try simp only[zn]);refine zt 4 (.bool true) rfl (fun W hW=>VM) hS ?_;(try simp only[zn]);refine zu 5 rfl hS ?_;(try simp only[zn]);refine zu 6 rfl hS ?_;(try simp only[zn]);refine zu 7 rfl hS ?_;(try simp only[zn]);refine zu 8 rfl hS ?_;(try simp only[zn]);refine zu 9 rfl hS ?_;(try simp only[zn]);refine zu 10 rfl hS ?_;(try simp only[zn]);refine zu 11 rfl hS ?_;(try simp only[zn]);refine zu 12 rfl hS ?_;(try simp only[zn]);refine zu 13 rfl hS ?_;(try simp only[zn]);refine zu 14 rfl hS ?_;(try simp only[zn]);refine zu 15 rfl hS ?_;(try simp only[zn]);refine zu 16 rfl hS ?_;(try simp only[zn]);refine zu 17 rfl hS ?_;(try simp only[zn]);refine zu 18 rfl hS ?_;exact S8
          |true=>
           by_cases vY:q=0
           ·subst vY;have uO:Hid (bX (d+1) (.mk kind fs)=(r0&&iM (bX d) (nA fs (0+1)) (fs.drop (0+1)))):=zh (by rw[tC.out,sT];simp[nA]);clear tC pZ;refine wp_region_held_drew (S:=(fun W=>Below (wr.alloc (.cells #[.string nm,.int .i64 k2,.slice a2 n2 c2] 184)).heap.size (wr.alloc (.cells #[.string nm,.int .i64 k2,.slice a2 n2 c2] 184)) W)) VH (aE _) fun hS=>?_;refine zt 0 (.pointer (some ⟨wr.heap.size,0,none⟩)) rfl (fun W hW=>VM) hS ?_;(try simp only[zn]);refine zt 1 (.string nm) rfl (fun W hW=>VP) hS ?_;(try simp only[zn]);refine zr 2 rfl (fun K hK=>?_);(try simp only[z1,z2,z3]);go_simp;refine(iS nm (wr.alloc (.cells #[.string nm,.int .i64 k2,.slice a2 n2 c2] 184)).drew VG (HG.out _ (aB HB.out (aB (aA _ _) (aE _))))).mono ?_;rintro e w5 ⟨rfl,rfl⟩;rw[sT];refine hK.out _ _ hS (fun hS=>?_);clear hK K;(try simp only[zn]);refine zt 3 (.bool false) rfl (fun W hW=>VM) hS ?_;(try simp only[zn]);refine zt 4 (.bool false) rfl (fun W hW=>VM) hS ?_;(try simp only[zn]);refine zt 5 (.int .i64 0) rfl (fun W hW=>VM) hS ?_;(try simp only[zn]);refine zt 6 (.bool false) rfl (fun W hW=>VM) hS ?_;(try simp only[zn]);refine zt 7 (.bool false) rfl (fun W hW=>VM) hS ?_;(try simp only[zn]);refine zu 8 rfl hS ?_;(try simp only[zn]);refine zu 9 rfl hS ?_;(try simp only[zn]);refine zu 10 rfl hS ?_;(try simp only[zn]);refine zu 11 rfl hS ?_;(try simp only[zn]);refine zu 12 rfl hS ?_;(try simp only[zn]);refine zu 13 rfl hS ?_;(try simp only[zn]);refine zu 14 rfl hS ?_;(try simp only[zn]);refine zu 15 rfl hS ?_;(try simp only[zn]);refine zu 16 rfl hS ?_;(try simp only[zn]);refine zu 17 rfl hS ?_;(try simp only[zn]);refine zt 18 (.bool false) rfl (fun W hW=>VM) hS ?_;(try simp only[zn]);refine zt 19 (.bool false) rfl (fun W hW=>VM) hS ?_;(try simp only[zn]);refine zt 20 (.bool false) rfl (fun W hW=>VM) hS ?_;(try simp only[zn]);refine zt 21 (.pointer (some ⟨wr.heap.size,1,none⟩)) rfl (fun W hW=>VM) hS ?_;(try simp only[zn]);refine zt 22 (.agg #[.int .i64 k2,.slice a2 n2 c2]) rfl (fun W hW=>VP) hS ?_;(try simp only[zn]);refine zt 23 (.int .i64 ((d:Int)+1)) rfl (fun W hW=>VM) hS ?_;(try simp only[zn]);refine zt 24 (.int .i64 (d:Int)) rfl (fun W hW=>X1) hS ?_;(try simp only[zn]);refine zr 25 rfl (fun K hK=>?_);(try simp only[z1,z2,z3]);go_simp;refine(HL.out _ (aB HB.out (aB (aA _ _) (aE _)))).mono ?_;rintro e w6 ⟨rfl,sL⟩;have QU:Below (wr.alloc (.cells #[.string nm,.int .i64 k2,.slice a2 n2 c2] 184)).heap.size (wr.alloc (.cells #[.string nm,.int .i64 k2,.slice a2 n2 c2] 184)) w6:=aB (aE _) sL;refine hK.out _ _ QU (fun hS=>?_);clear hK K;(try simp only[zn]);refine zt 26 (.bool (!r0)) rfl (fun W hW=>VM) hS ?_;(try simp only[zn]);refine zt 27 (.bool (!r0)) rfl (fun W hW=>VM) hS ?_;(try simp only[zn]);refine wpAnyH_done VH ?_ _;have xO:=zh (aB qQ.out (aB (aA wr (.cells #[.string nm,.int .i64 k2,.slice a2 n2 c2] 184)) QU));have zH:=zh (aB (aA w (.cells #[.int .i64 kind,.slice (some ⟨b,o,none⟩) fs.length c] 175)) xO.out)
            cases r0 with
            |false=>
             exact UU
            |true=>
             have OP:Hid (bX (d+1) (.mk kind fs)=iM (bX d) (nA fs (0+1)) (fs.drop (0+1))):=zh (by rw[uO.out];rfl);clear uO hS QU sL HL q0 q1 q2 t0 t1 p0 p1 p2;go_wp2_with fail;go_roundw;(case rel=>exact⟨0+1,VG,VT,xO,OP⟩);case measure=>simp[intOf];omega
           ·have yV:0<q:=VG;obtain⟨y,hy,-⟩:=getElem?_of_lt (l:=fs) (k:=q-1) VG;obtain⟨cs',⟨ct',rfl,hn',het'⟩,-,yM⟩:=HC.out (q-1) y hy;obtain⟨pn,ty'⟩:=y;have hp0:(wr.alloc (.cells #[.string nm,.int .i64 k2,.slice a2 n2 c2] 184)).cell? ⟨b,o+(q-1)*3,none⟩=some (.string pn):=aC (aB HB.out (aA _ _)) YO;(have hpv:nA fs q=some pn:=by unfold nA;rw[if_neg vY,hy];rfl);rw[hpv] at tC;clear yM het' hn' hpv
            cases EX:gtB nm pn with
            |false=>
             (have DV:∀W,(binOp .leq 9 (.string nm) (.string pn)).run Tryz.prog W=.ok (.bool true) W:=fun W=>by rw[nT,EX];rfl);have HF:Hid (bX (d+1) (.mk kind fs)=false):=zh W8;clear tC pZ;refine wp_region_held_drew (S:=(fun W=>Below (wr.alloc (.cells #[.string nm,.int .i64 k2,.slice a2 n2 c2] 184)).heap.size (wr.alloc (.cells #[.string nm,.int .i64 k2,.slice a2 n2 c2] 184)) W)) VH (aE _) fun hS=>?_;refine zt 0 (.pointer (some ⟨wr.heap.size,0,none⟩)) rfl (fun W hW=>VM) hS ?_;(try simp only[zn]);refine zt 1 (.string nm) rfl (fun W hW=>VP) hS ?_;(try simp only[zn]);refine zr 2 rfl (fun K hK=>?_);(try simp only[z1,z2,z3]);go_simp;refine(iS nm (wr.alloc (.cells #[.string nm,.int .i64 k2,.slice a2 n2 c2] 184)).drew VG (HG.out _ (aB HB.out (aB (aA _ _) (aE _))))).mono ?_;rintro e w5 ⟨rfl,rfl⟩;rw[sT];refine hK.out _ _ hS (fun hS=>?_);clear hK K;(try simp only[zn]);refine zt 3 (.bool false) rfl (fun W hW=>VM) hS ?_;(try simp only[zn]);refine zt 4 (.bool false) rfl (fun W hW=>VM) hS ?_;(try simp only[zn]);refine zt 5 (.int .i64 (q:Int)) rfl (fun W hW=>VM) hS ?_;(try simp only[zn]);refine zt 6 (.bool true) rfl (fun W hW=>VM) hS ?_;(try simp only[zn]);refine zt 7 (.bool true) rfl (fun W hW=>VM) hS ?_;(try simp only[zn]);refine zt 8 (.pointer (some ⟨wr.heap.size,0,none⟩)) rfl (fun W hW=>VM) hS ?_;(try simp only[zn]);refine zt 9 (.string nm) rfl (fun W hW=>VP) hS ?_;(try simp only[zn]);refine zt 10 (.pointer (some ⟨w.heap.size,1,none⟩)) rfl (fun W hW=>VM) hS ?_;(try simp only[zn]);refine zt 11 (.slice (some ⟨b,o,none⟩) fs.length c) rfl (fun W hW=>VP) hS ?_;(try simp only[zn]);refine zt 12 (.int .i64 (q:Int)) rfl (fun W hW=>VM) hS ?_;(try simp only[zn]);refine zt 13 (.int .i64 ((q:Int)-1)) rfl (fun W hW=>XU) hS ?_;(try simp only[zn]);refine zt 14 (.pointer (some ⟨b,o+(q-1)*3,none⟩)) rfl (fun W hW=>WQ) hS ?_;(try simp only[zn]);refine zt 15 (.pointer (some ⟨b,o+(q-1)*3,none⟩)) rfl (fun W hW=>VM) hS ?_;(try simp only[zn]);refine zt 16 (.string pn) rfl (fun W hW=>W5) hS ?_;(try simp only[zn]);refine zt 17 (.bool true) rfl (fun W hW=>by have vF:=DV W;go_simp) hS ?_;(try simp only[zn]);refine zt 18 (.bool true) rfl (fun W hW=>VM) hS ?_;exact S8
            |true=>
             (have DV:∀W,(binOp .leq 9 (.string nm) (.string pn)).run Tryz.prog W=.ok (.bool false) W:=fun W=>by rw[nT,EX];rfl);have uO:Hid (bX (d+1) (.mk kind fs)=(r0&&iM (bX d) (nA fs (q+1)) (fs.drop (q+1)))):=zh W8;clear tC pZ;refine wp_region_held_drew (S:=(fun W=>Below (wr.alloc (.cells #[.string nm,.int .i64 k2,.slice a2 n2 c2] 184)).heap.size (wr.alloc (.cells #[.string nm,.int .i64 k2,.slice a2 n2 c2] 184)) W)) VH (aE _) fun hS=>?_;refine zt 0 (.pointer (some ⟨wr.heap.size,0,none⟩)) rfl (fun W hW=>VM) hS ?_;(try simp only[zn]);refine zt 1 (.string nm) rfl (fun W hW=>VP) hS ?_;(try simp only[zn]);refine zr 2 rfl (fun K hK=>?_);(try simp only[z1,z2,z3]);go_simp;refine(iS nm (wr.alloc (.cells #[.string nm,.int .i64 k2,.slice a2 n2 c2] 184)).drew VG (HG.out _ (aB HB.out (aB (aA _ _) (aE _))))).mono ?_;rintro e w5 ⟨rfl,rfl⟩;rw[sT];refine hK.out _ _ hS (fun hS=>?_);clear hK K;(try simp only[zn]);refine zt 3 (.bool false) rfl (fun W hW=>VM) hS ?_;(try simp only[zn]);refine zt 4 (.bool false) rfl (fun W hW=>VM) hS ?_;(try simp only[zn]);refine zt 5 (.int .i64 (q:Int)) rfl (fun W hW=>VM) hS ?_;(try simp only[zn]);refine zt 6 (.bool true) rfl (fun W hW=>VM) hS ?_;(try simp only[zn]);refine zt 7 (.bool true) rfl (fun W hW=>VM) hS ?_;(try simp only[zn]);refine zt 8 (.pointer (some ⟨wr.heap.size,0,none⟩)) rfl (fun W hW=>VM) hS ?_;(try simp only[zn]);refine zt 9 (.string nm) rfl (fun W hW=>VP) hS ?_;(try simp only[zn]);refine zt 10 (.pointer (some ⟨w.heap.size,1,none⟩)) rfl (fun W hW=>VM) hS ?_;(try simp only[zn]);refine zt 11 (.slice (some ⟨b,o,none⟩) fs.length c) rfl (fun W hW=>VP) hS ?_;(try simp only[zn]);refine zt 12 (.int .i64 (q:Int)) rfl (fun W hW=>VM) hS ?_;(try simp only[zn]);refine zt 13 (.int .i64 ((q:Int)-1)) rfl (fun W hW=>XU) hS ?_;(try simp only[zn]);refine zt 14 (.pointer (some ⟨b,o+(q-1)*3,none⟩)) rfl (fun W hW=>WQ) hS ?_;(try simp only[zn]);refine zt 15 (.pointer (some ⟨b,o+(q-1)*3,none⟩)) rfl (fun W hW=>VM) hS ?_;(try simp only[zn]);refine zt 16 (.string pn) rfl (fun W hW=>W5) hS ?_;(try simp only[zn]);refine zt 17 (.bool false) rfl (fun W hW=>by have vF:=DV W;go_simp) hS ?_;(try simp only[zn]);refine zt 18 (.bool false) rfl (fun W hW=>VM) hS ?_;(try simp only[zn]);refine zt 19 (.bool false) rfl (fun W hW=>VM) hS ?_;(try simp only[zn]);refine zt 20 (.bool false) rfl (fun W hW=>VM) hS ?_;(try simp only[zn]);refine zt 21 (.pointer (some ⟨wr.heap.size,1,none⟩)) rfl (fun W hW=>VM) hS ?_;(try simp only[zn]);refine zt 22 (.agg #[.int .i64 k2,.slice a2 n2 c2]) rfl (fun W hW=>VP) hS ?_;(try simp only[zn]);refine zt 23 (.int .i64 ((d:Int)+1)) rfl (fun W hW=>VM) hS ?_;(try simp only[zn]);refine zt 24 (.int .i64 (d:Int)) rfl (fun W hW=>X1) hS ?_;(try simp only[zn]);refine zr 25 rfl (fun K hK=>?_);(try simp only[z1,z2,z3]);go_simp;refine(HL.out _ (aB HB.out (aB (aA _ _) (aE _)))).mono ?_;rintro e w6 ⟨rfl,sL⟩;have QU:Below (wr.alloc (.cells #[.string nm,.int .i64 k2,.slice a2 n2 c2] 184)).heap.size (wr.alloc (.cells #[.string nm,.int .i64 k2,.slice a2 n2 c2] 184)) w6:=aB (aE _) sL;refine hK.out _ _ QU (fun hS=>?_);clear hK K;(try simp only[zn]);refine zt 26 (.bool (!r0)) rfl (fun W hW=>VM) hS ?_;(try simp only[zn]);refine zt 27 (.bool (!r0)) rfl (fun W hW=>VM) hS ?_;(try simp only[zn]);refine wpAnyH_done VH ?_ _;have xO:=zh (aB qQ.out (aB (aA wr (.cells #[.string nm,.int .i64 k2,.slice a2 n2 c2] 184)) QU));have zH:=zh (aB (aA w (.cells #[.int .i64 kind,.slice (some ⟨b,o,none⟩) fs.length c] 175)) xO.out)
             cases r0 with
             |false=>
              exact UU
             |true=>
              have OP:Hid (bX (d+1) (.mk kind fs)=iM (bX d) (nA fs (q+1)) (fs.drop (q+1))):=zh (by rw[uO.out];rfl);clear uO hS QU sL HL q0 q1 q2 t0 t1 p0 p1 p2;go_wp2_with fail;go_roundw;(case rel=>exact⟨q+1,VG,VT,xO,OP⟩);case measure=>simp[intOf];omega
        ·have wY:q=fs.length:=VG;have HT:Hid (bX (d+1) (.mk kind fs)=true):=zh XD;go_wp2_with fail;go_ret;exact⟨aD (by rw[HT.out]),HB.out⟩
     ·have h4:¬kind=2:=fun e=>g4 (.inl e);(have h4':(kind != 2)=true:=by rw[bne_iff_ne];exact h4);(have h5:(0:Int)<(fs.length:Int):=by have:¬fs.length=0:=fun e=>g4 (.inr e);omega);have HF:=zh (tD.out (fun h=>g4 h.2.2.2));clear tD g4;exact TV
    ·have g3':(8:Int)<(fs.length:Int):=VG;have HF:=zh (tD.out (fun h=>g3 h.2.2.1));clear tD;exact TV
   ·have g2':3<=kind:=VG;have HF:=zh (tD.out (fun h=>g2 h.2.1));clear tD;exact TV
  ·have g1':kind<0:=VG;have HF:=zh (tD.out (fun h=>g1 h.1));clear tD;exact TV
theorem rightType_any:∀(d:Nat)(t:Ty)(N:Nat->Prop)(k:Int)(vf:Value)(w:World),d<=100->dH w->iN N w t [.int .i64 k,vf]->
  Calls Tryz.prog 197 #[.agg #[.int .i64 k,vf],.int .i64 (d:Int)] w fun e w'=>e=.returned (.bool (bX d t))/\Below w.heap.size w w':=fun d=>by
 induction d with
 |zero=>exact rightType_zero
 |succ d ih=>exact rightType_step d ih
end Go.Proofs.YtacgopankhpnbaaGreatDoor
