/- Texts of this seat, joined. -/
import Derived.Test.YtiionicikdnnpaaGreatDoorSynMo
import Derived.Test.YtiionicikdnnpaaGreatDoorPAA
set_option maxHeartbeats 32000000
set_option maxRecDepth 100000
set_option linter.unusedVariables false
set_option linter.unusedSimpArgs false
set_option linter.constructorNameAsVariable false
namespace Go.Proofs.YtiionicikdnnpaaGreatDoor
open Go.RowKit
theorem SN{p:Prop}(h:p:=by
 refine leaves_cons (f:=109) (args:=#[.pointer (some ⟨w.heap.size,0,none⟩),.pointer (some ⟨w.heap.size+1,0,none⟩)]) VY (by simp[go_sem]) ?_;refine(catch_idle w.heap.size (w.heap.size+1) _).mono ?_;rintro e u' w4 ⟨rfl,rfl,rfl⟩;simp[Leaves,settle,results,Tryz.results42,go_sem,a0,b0];have oz:Off (fun k=>k=w.heap.size\/k=w.heap.size+1) w2 ((w2.setCell ⟨w.heap.size,0,none⟩ (.int .i64 0)).setCell ⟨w.heap.size+1,0,none⟩ (.int .i64 0)):=(Off.setCell (S:=fun k=>k=w.heap.size\/k=w.heap.size+1) w2 (.inl rfl)).trans (Off.setCell (S:=fun k=>k=w.heap.size\/k=w.heap.size+1) _ (.inr rfl));have rY:((w.alloc (jS 0)).alloc (oU 0)).heap.size=w.heap.size+2:=VY
 exact .inr ⟨m,j,hx,rfl,hm.off oz (by rintro(e|e)<;>omega) (fun b hb hn=>by rw[rY] at hn;rcases hb with e|e<;>omega) (by rw[rY];omega),Off.fresh (((HO.out.trans ho).or w.heap.size).trans (oz.mono fun k hk=>.inr (by rcases hk with e|e<;>omega))) (Nat.le_refl _)⟩):p:=h
theorem SY{p:Prop}(h:p:=by
 clear a0 a1 b0 b1;refine leaves_cons (f:=109) (args:=#[.pointer (some ⟨w.heap.size,0,none⟩),.pointer (some ⟨w.heap.size+1,0,none⟩)]) VY (by simp[go_sem]) ?_;refine(catch_fault w.heap.size (w.heap.size+1) x [] w2 yM.out pQ.out).mono ?_;rintro e u' w4 ⟨rfl,rfl,qH,h1,h3⟩;obtain⟨a0,a1⟩:=bx h1 0 (u:=.int .i64 x.1) rfl;obtain⟨b0,b1⟩:=bx h3 0 (u:=.int .i64 x.2) rfl;simp[Leaves,settle,results,Tryz.results42,go_sem,a0,b0]
 exact .inl ⟨x,hx,rfl,Off.fresh (((HO.out.trans ho).or w.heap.size).trans (qH.mono fun k hk=>.inr (by rcases hk with e|e<;>omega))) (Nat.le_refl _)⟩):p:=h
structure RunAt (p:Prs) (w:World) (pv mb:Nat):Prop where
 at_:p.At w 0
 hpv:w.heap[pv]? =some (.cells #[.pointer (some ⟨p.pb,0,none⟩)] 74)
 hmb:w.heap[mb]? =some (.cells cZ 30)
 ne:mb≠p.pb/\pv≠p.pb/\pv≠mb
theorem RunAt.later{p:Prs}{w w':World}{pv mb:Nat}(h:RunAt p w pv mb)(hb:Below w.heap.size w w'):RunAt p w' pv mb:=⟨h.at_.later hb,aD hb h.hpv,aD hb h.hmb,h.ne⟩
def MdlAt(B:Nat)(w:World)(mb:Nat)(m:Mdl):Prop:=∃au nu du av nv dv ai ni di af nf df ao no do_ aw nw dw ab nb db,
 w.heap[mb]? =some (dX m.name au nu du av nv dv ai ni di af nf df m.moves ao no do_ aw nw dw ab nb db)/\
 encM (bP B) w m [.string m.name,.slice au nu du,.slice av nv dv,.slice ai ni di,.slice af nf df,.bool m.moves,.slice ao no do_,.slice aw nw dw,.slice ab nb db]
theorem MdlAt.later{B:Nat}{w w':World}{mb:Nat}{m:Mdl}(h:MdlAt B w mb m)(hb:Below w.heap.size w w'):MdlAt B w' mb m:=by
 obtain⟨au,nu,du,av,nv,dv,ai,ni,di,af,nf,df,ao,no,do_,aw,nw,dw,ab,nb,db,h1,h2⟩:=h;exact⟨au,nu,du,av,nv,dv,ai,ni,di,af,nf,df,ao,no,do_,aw,nw,dw,ab,nb,db,aD hb h1,jL _ _ _ _ _ _ (aK.later hb) h2⟩
theorem MdlAt.off{B B':Nat}{w w':World}{mb:Nat}{m:Mdl}{S:Nat->Prop}(h:MdlAt B w mb m)(ho:Off S w w')(h1:¬S mb)(h2:∀b,S b->¬B<=b)(hB:B'<=B):MdlAt B' w' mb m:=by
 obtain⟨au,nu,du,av,nv,dv,ai,ni,di,af,nf,df,ao,no,do_,aw,nw,dw,ab,nb,db,e1,e2⟩:=h;exact⟨au,nu,du,av,nv,dv,ai,ni,di,af,nf,df,ao,no,do_,aw,nw,dw,ab,nb,db,ho.heap h1 e1,jL.wide (jL.off e2 ho (fun b hb hn=>h2 b hb hn)) (fun b hb _=>Nat.le_trans hB hb)⟩
theorem set9_heap{w:World}{b:Nat}{z0 z1 z2 z3 z4 z5 z6 z7 z8 x0 x1 x2 x3 x4 x5 x6 x7 x8:Value}{t:TypeId}(h:w.heap[b]? =some (.cells #[z0,z1,z2,z3,z4,z5,z6,z7,z8] t)):(set9 w b x0 x1 x2 x3 x4 x5 x6 x7 x8).heap[b]? =some (.cells #[x0,x1,x2,x3,x4,x5,x6,x7,x8] t):=by
 unfold set9;have e0:(w.setCell ⟨b,0,none⟩ x0).heap[b]? =some (.cells #[x0,z1,z2,z3,z4,z5,z6,z7,z8] t):=by rw[aW h];rfl
 have e1:((w.setCell ⟨b,0,none⟩ x0).setCell ⟨b,1,none⟩ x1).heap[b]? =some (.cells #[x0,x1,z2,z3,z4,z5,z6,z7,z8] t):=by rw[aW e0];rfl
 have e2:(((w.setCell ⟨b,0,none⟩ x0).setCell ⟨b,1,none⟩ x1).setCell ⟨b,2,none⟩ x2).heap[b]? =some (.cells #[x0,x1,x2,z3,z4,z5,z6,z7,z8] t):=by rw[aW e1];rfl
 have e3:((((w.setCell ⟨b,0,none⟩ x0).setCell ⟨b,1,none⟩ x1).setCell ⟨b,2,none⟩ x2).setCell ⟨b,3,none⟩ x3).heap[b]? =some (.cells #[x0,x1,x2,x3,z4,z5,z6,z7,z8] t):=by rw[aW e2];rfl
 have e4:(((((w.setCell ⟨b,0,none⟩ x0).setCell ⟨b,1,none⟩ x1).setCell ⟨b,2,none⟩ x2).setCell ⟨b,3,none⟩ x3).setCell ⟨b,4,none⟩ x4).heap[b]? =some (.cells #[x0,x1,x2,x3,x4,z5,z6,z7,z8] t):=by rw[aW e3];rfl
 have e5:((((((w.setCell ⟨b,0,none⟩ x0).setCell ⟨b,1,none⟩ x1).setCell ⟨b,2,none⟩ x2).setCell ⟨b,3,none⟩ x3).setCell ⟨b,4,none⟩ x4).setCell ⟨b,5,none⟩ x5).heap[b]? =some (.cells #[x0,x1,x2,x3,x4,x5,z6,z7,z8] t):=by rw[aW e4];rfl
 have e6:(((((((w.setCell ⟨b,0,none⟩ x0).setCell ⟨b,1,none⟩ x1).setCell ⟨b,2,none⟩ x2).setCell ⟨b,3,none⟩ x3).setCell ⟨b,4,none⟩ x4).setCell ⟨b,5,none⟩ x5).setCell ⟨b,6,none⟩ x6).heap[b]? =some (.cells #[x0,x1,x2,x3,x4,x5,x6,z7,z8] t):=by rw[aW e5];rfl
 have e7:((((((((w.setCell ⟨b,0,none⟩ x0).setCell ⟨b,1,none⟩ x1).setCell ⟨b,2,none⟩ x2).setCell ⟨b,3,none⟩ x3).setCell ⟨b,4,none⟩ x4).setCell ⟨b,5,none⟩ x5).setCell ⟨b,6,none⟩ x6).setCell ⟨b,7,none⟩ x7).heap[b]? =some (.cells #[x0,x1,x2,x3,x4,x5,x6,x7,z8] t):=by rw[aW e6];rfl
 have e8:(((((((((w.setCell ⟨b,0,none⟩ x0).setCell ⟨b,1,none⟩ x1).setCell ⟨b,2,none⟩ x2).setCell ⟨b,3,none⟩ x3).setCell ⟨b,4,none⟩ x4).setCell ⟨b,5,none⟩ x5).setCell ⟨b,6,none⟩ x6).setCell ⟨b,7,none⟩ x7).setCell ⟨b,8,none⟩ x8).heap[b]? =some (.cells #[x0,x1,x2,x3,x4,x5,x6,x7,x8] t):=by rw[aW e7];rfl
 exact e8
theorem parse1_any(p:Prs)(w:World)(pv mb:Nat)(h:RunAt p w pv mb):Calls Tryz.prog 43 #[.pointer (some ⟨pv,0,none⟩),.pointer (some ⟨mb,0,none⟩)] w
  (Ran (fun k=>k=p.pb\/k=mb) w (gN p.l) fun m _ e w'=>e=.returned (.tuple #[])/\MdlAt w.heap.size w' mb m):=by
 obtain⟨v0,v1⟩:=bx h.hpv 0 (u:=.pointer (some ⟨p.pb,0,none⟩)) rfl;have HM:=zh (module_any p w h.at_);have HB:=zh h.hmb;have hmb:=(Array.getElem?_eq_some_iff.1 h.hmb).1;have pP:=h.ne.1;clear h;go_enter Tryz.func43,Tryz.ntmps43;go_wp2_with(go_at_call 44;refine HM.out.mono ?_;rintro e w2 (⟨x,hx,rfl,ho⟩|⟨m,j,hx,⟨au,nu,du,av,nv,dv,ai,ni,di,af,nf,df,ao,no,do_,aw,nw,dw,ab,nb,db,rfl,NX,ha⟩,ho⟩)<;>have pQ:=zh (ho.heap pP HB.out)<;>obtain⟨⟨c0,c1,c2,c3,c4,c5,c6,c7,c8⟩,f0,f1,f2,f3,f4,f5,f6,f7,f8⟩:=bx9 pQ.out)
 ·exact⟨rfl,Ran.bad' hx (ho.mono fun _ h=>.inl h)⟩
 have pY:=oO w2 mb (.string m.name) (.slice au nu du) (.slice av nv dv) (.slice ai ni di) (.slice af nf df) (.bool m.moves) (.slice ao no do_) (.slice aw nw dw) (.slice ab nb db);have hh:=set9_heap (x0:=.string m.name) (x1:=.slice au nu du) (x2:=.slice av nv dv) (x3:=.slice ai ni di) (x4:=.slice af nf df) (x5:=.bool m.moves) (x6:=.slice ao no do_) (x7:=.slice aw nw dw) (x8:=.slice ab nb db) pQ.out;have he:=jL.off NX pY (fun b hb hn=>by have hb:b=mb:=hb;have hn:w.heap.size<=b:=hn;omega);unfold set9 at pY hh he;go_end0;exact Ran.good hx ⟨rfl,au,nu,du,av,nv,dv,ai,ni,di,af,nf,df,ao,no,do_,aw,nw,dw,ab,nb,db,hh,he⟩ ((ho.mono fun _ h=>.inl h).trans (pY.mono fun _ h=>.inr h))
def RunV(p:Prs)(w:World)(mb:Nat)(e:Ending)(w':World):Prop:=
 (∃x,gN p.l=.error x/\e=.returned (.tuple #[.int .i64 x.1,.int .i64 x.2])/\Off (fun k=>k=p.pb\/k=mb) w w')\/
 (∃m j,gN p.l=.ok (m,j)/\e=.returned (.tuple #[.int .i64 0,.int .i64 0])/\MdlAt w.heap.size w' mb m/\Off (fun k=>k=p.pb\/k=mb) w w')
theorem run_any(p:Prs)(w:World)(pv mb:Nat)(h:RunAt p w pv mb):Calls Tryz.prog 42 #[.pointer (some ⟨p.pb,0,none⟩),.func (.func 43) #[] #[.pointer (some ⟨pv,0,none⟩),.pointer (some ⟨mb,0,none⟩)]] w (RunV p w mb):=by
 have hmf:∀(fn:Fn)(first cap:Array Value)(w:World),(Instr.makeFunc fn first cap).run Tryz.prog w=.ok (.func fn first cap) w:=fun _ _ _ _=>rfl;have hz:(w.alloc (jS 0)).heap.size=w.heap.size+1:=VY;have h2:=h.later (aA (aC w (jS 0)) (aC (w.alloc (jS 0)) (oU 0)));have HA:=zh (aD (aC (w.alloc (jS 0)) (oU 0)) (bY w (jS 0)));have P8:=bY (w.alloc (jS 0)) (oU 0);rw[hz] at P8;have HB:=zh P8;have HO:=zh (Ba (S:=fun k=>k=p.pb\/k=mb) (aA (aC w (jS 0)) (aC (w.alloc (jS 0)) (oU 0))));have HP:=zh (parse1_any p _ pv mb h2);have uS:=h.at_.blt;have hmb:=(Array.getElem?_eq_some_iff.1 h.hmb).1;clear h2 P8 h
 go_enter_defers Tryz.func42,Tryz.ntmps42
 go_wp2_with(go_at_call 43;refine HP.out.mono ?_;rintro e w2 (⟨x,hx,rfl,ho⟩|⟨m,j,hx,⟨rfl,hm⟩,ho⟩)<;>have yM:=zh (ho.heap (fun e=>V4) HA.out)<;>have pQ:=zh (ho.heap (fun e=>V4) HB.out)<;>obtain⟨a0,a1⟩:=bx yM.out 0 (u:=.int .i64 0) rfl<;>obtain⟨b0,b1⟩:=bx pQ.out 0 (u:=.int .i64 0) rfl)
 ·exact SY
 exact SN
def parseV(B:Nat)(r:Except (Int×Int) Mdl)(e:Ending)(w':World):Prop:=match r with
 | .error x=>e=.returned (.tuple #[.agg cZ,.int .i64 x.1,.int .i64 x.2])
 | .ok m=>∃au nu du av nv dv ai ni di af nf df ao no do_ aw nw dw ab nb db,e=.returned (.tuple #[oA m.name au nu du av nv dv ai ni di af nf df m.moves ao no do_ aw nw dw ab nb db,.int .i64 0,.int .i64 0])/\
   encM (bP B) w' m [.string m.name,.slice au nu du,.slice av nv dv,.slice ai ni di,.slice af nf df,.bool m.moves,.slice ao no do_,.slice aw nw dw,.slice ab nb db]
theorem parseL_lex{s:bA}{x:Int×Int}(h:lexL s=.error x):iY s=.error x:=by unfold iY;rw[h]
theorem parseL_bad{s:bA}{l:List Tok}{x:Int×Int}(h:lexL s=.ok l)(hm:gN l=.error x):iY s=.error x:=by unfold iY;rw[h];simp only[hm]
theorem parseL_ok{s:bA}{l:List Tok}{m:Mdl}{j:Nat}(h:lexL s=.ok l)(hm:gN l=.ok (m,j)):iY s=.ok m:=by unfold iY;rw[h];simp only[hm]
theorem prs_made{s:bA}{l:List Tok}{b o c B pb:Nat}{w w':World}(ht:TokOk s l)(hs:s.size<=8000)(hc:l.length<=c/\c<=9223372036854775807)(hb:b<w.heap.size)
  (hr:∀i x,l[i]? =some x->∃cs,encTok (bP B) w x cs/\cs.length=4/\∀j u,cs[j]? =some u->w.cell? ⟨b,o+i*4+j,none⟩=some u) (DU:Below w.heap.size w w')
  (uS:w'.heap[pb]? =some (mH (some ⟨b,o,none⟩) l.length c 0)) (PP:w.heap.size<=pb) (hg:hZ w') (DJ:Lib.TabIs Tryz.prog w' "strings.asciiSpace" .u8 Lib.asciiSpaceTab) (h11:11<=w.heap.size):
  Prs.At ⟨l,b,o,c,pb⟩ w' 0:=by
 refine⟨uS,fun k t hk=>?_,by show b≠pb;omega,ht.pos,by have:=ht.len;show l.length<=8001;omega,hc,fun k t hk hn=>ht.last k t hk hn,hg,DJ,fun k hk=>by show k≠pb;omega⟩;obtain⟨cs,⟨rfl,hz⟩,-,hj⟩:=hr k t hk;exact⟨⟨aB DU (hj 0 _ rfl),aB DU (hj 1 _ rfl),aB DU (hj 2 _ rfl),aB DU (hj 3 _ rfl)⟩,hz⟩
theorem iO{w w2 w':World}(h:Below w.heap.size w w2)(ho:Off (fun k=>w.heap.size<=k) w2 w'):Below w.heap.size w w':=
 ⟨ho.os.trans h.os,ho.tape.trans h.tape,ho.output.trans h.output,Nat.le_trans h.size ho.size,fun k hk=>(ho.block k (by have:=h.size;omega) (fun e=>by have e:w.heap.size<=k:=e;omega)).trans (h.block k hk)⟩
theorem aO.pos{α:Type}{k:Nat}{enc:(Nat->Prop)->World->α->List Value->Prop}{N:Nat->Prop}{w:World}{v:Value}{l:List α}(hk:0<k)(h:aO k enc N w v l)(hp:0<l.length):∃b o c,v=.slice (some ⟨b,o,none⟩) l.length c/\l.length<=c/\c<=9223372036854775807/\b<w.heap.size/\
  ∀i x,l[i]? =some x->∃cs,enc N w x cs/\cs.length=k/\∀j u,cs[j]? =some u->w.cell? ⟨b,o+i*k+j,none⟩=some u:=by
 rcases h.cases hk with⟨rfl,-⟩|⟨b,o,c,h1,h2,h3,h4,h5,h6,h7⟩
 ·simp at hp
 exact⟨b,o,c,h1,h3,h4,h5,h7⟩
theorem lexL_size{s:bA}{l:List Tok}(h:lexL s=.ok l):s.size<=8000:=by
 unfold lexL at h;split at h
 ·cases h
 omega
theorem parse_any(s:bA)(w:World)(hs:s.size<=140737488355328)(hg:hZ w)(hsg:SignsAt w)(DJ:Lib.TabIs Tryz.prog w "strings.asciiSpace" .u8 Lib.asciiSpaceTab):
  Calls Tryz.prog 11 #[.string s] w fun e w'=>parseV w.heap.size (iY s) e w'/\Below w.heap.size w w':=by
 have hmf:∀(fn:Fn)(first cap:Array Value)(w:World),(Instr.makeFunc fn first cap).run Tryz.prog w=.ok (.func fn first cap) w:=fun _ _ _ _=>rfl;have h11:=hg.big;have RQ:=zh (aC w (.cells cZ 30));have M6:=zh (lex_any s (w.alloc (.cells cZ 30)) hs (hsg.later RQ.out));have HG:=zh (fun w'(hb:Below w.heap.size w w')=>hg.later hb);have qO:=zh (fun w'(hb:Below w.heap.size w w')=>spc_off DJ hg.big (Ba (S:=fun _=>False) hb) (fun _ _ h=>h));have rX:(w.alloc (.cells cZ 30)).heap.size=w.heap.size+1:=VY;clear hg hsg DJ
 cases hl:lexL s with
 |error x=>
  have qD:(x.2 != 0)=true:=by rw[bne_iff_ne];exact lexL_nz hl
  have HR:=zh (parseL_lex hl);rw[hl] at M6;clear hl;go_enter Tryz.func11,Tryz.ntmps11;go_wp2_with(go_at_call 36;refine M6.out.mono ?_;rintro e w2 ⟨he,pM⟩;obtain rfl:e=.returned (.tuple #[.slice none 0 0,.int .i64 x.1,.int .i64 x.2]):=he;obtain⟨⟨c0,c1,c2,c3,c4,c5,c6,c7,c8⟩,f0,f1,f2,f3,f4,f5,f6,f7,f8⟩:=bx9 (aD pM (bY w (.cells cZ 30))));refine bodyPost_ret (v:=.tuple #[.agg cZ,.int .i64 x.1,.int .i64 x.2]) (by simp[results,Tryz.results11,go_sem,c0,c1,c2,c3,c4,c5,c6,c7,c8]) rfl ⟨WP,?_⟩;have ho:=oO w2 w.heap.size (.string ⟨#[]⟩) (.slice none 0 0) (.slice none 0 0) (.slice none 0 0) (.slice none 0 0) (.bool false) (.slice none 0 0) (.slice none 0 0) (.slice none 0 0);unfold set9 at ho;exact iO (aA RQ.out pM) (ho.mono fun k hk=>Nat.le_of_eq (Eq.symm hk))
 |ok l=>
  have hs8:=lexL_size hl;have HE:=zh (fun x hx=>parseL_bad (x:=x) hl hx);have HK:=zh (fun m j hx=>parseL_ok (m:=m) (j:=j) hl hx);rw[hl] at M6;clear hl;go_enter Tryz.func11,Tryz.ntmps11;go_wp2_with(first|(go_at_call 42;refine(run_any ⟨l,b,o,c,w2.heap.size+1⟩ ((((w2.alloc (.cells cZ 30)).alloc (mH (some ⟨b,o,none⟩) l.length c 0)).alloc (.cells #[.pointer (some ⟨w2.heap.size+1,0,none⟩)] 74))) (w2.heap.size+2) w2.heap.size QN.out).mono ?_;rintro e w6 (⟨x,hx,rfl,ho⟩|⟨m,j,hx,rfl,hm,ho⟩)<;>have GI:=zh (ho.heap (fun e=>Or.elim e (fun e=>by have e:w.heap.size=w2.heap.size+1:=e;omega) (fun e=>by have e:w.heap.size=w2.heap.size:=e;omega)) QO.out)<;>obtain⟨⟨r0,r1,r2,r3,r4,r5,r6,r7,r8⟩,g0,g1,g2,g3,g4,g5,g6,g7,g8⟩:=bx9 GI.out<;>first|(have qD:(x.2 != 0)=true:=by rw[bne_iff_ne];exact module_nz x hx)|(obtain⟨au,nu,du,av,nv,dv,ai,ni,di,af,nf,df,ao,no,do_,aw,nw,dw,ab,nb,db,tA,NX⟩:=hm;obtain⟨⟨d0,d1,d2,d3,d4,d5,d6,d7,d8⟩,e0,e1,e2,e3,e4,e5,e6,e7,e8⟩:=bx9 tA))|(go_at_call 36;refine M6.out.mono ?_;rintro e w2 ⟨he,pM⟩;obtain⟨v,rfl,sN,sC⟩:=he;obtain⟨b,o,c,rfl,EV,tJ,hb,AB⟩:=sN.pos VU sC.pos;have rY:=pM.size;have B3:=aC w2 (.cells cZ 30);have B4:=aC (w2.alloc (.cells cZ 30)) (mH (some ⟨b,o,none⟩) l.length c 0);have B5:=aC ((w2.alloc (.cells cZ 30)).alloc (mH (some ⟨b,o,none⟩) l.length c 0)) (.cells #[.pointer (some ⟨w2.heap.size+1,0,none⟩)] 74);have z3:(w2.alloc (.cells cZ 30)).heap.size=w2.heap.size+1:=VY;have z4:((w2.alloc (.cells cZ 30)).alloc (mH (some ⟨b,o,none⟩) l.length c 0)).heap.size=w2.heap.size+2:=VY;have GY:=zh (aA B3 (aA B4 B5));have KY:=zh (aA (aA RQ.out pM) GY.out);have IM:=bY (w2.alloc (.cells cZ 30)) (mH (some ⟨b,o,none⟩) l.length c 0);have PB:=bY ((w2.alloc (.cells cZ 30)).alloc (mH (some ⟨b,o,none⟩) l.length c 0)) (.cells #[.pointer (some ⟨w2.heap.size+1,0,none⟩)] 74);rw[z3] at IM;rw[z4] at PB;have QN:Hid (RunAt ⟨l,b,o,c,w2.heap.size+1⟩ (((w2.alloc (.cells cZ 30)).alloc (mH (some ⟨b,o,none⟩) l.length c 0)).alloc (.cells #[.pointer (some ⟨w2.heap.size+1,0,none⟩)] 74)) (w2.heap.size+2) w2.heap.size):=zh ⟨prs_made sC hs8 ⟨EV,tJ⟩ hb AB GY.out (aD B5 IM) VS (HG.out _ KY.out) (qO.out _ KY.out) VS,PB,aD (aA B4 B5) (bY w2 _),by show w2.heap.size≠w2.heap.size+1;omega,by show w2.heap.size+2≠w2.heap.size+1;omega,VS⟩;have QO:=zh (aD (aA pM GY.out) (bY w (.cells cZ 30)));clear IM PB B3 B4 B5 z3 z4 AB sN sC))
  ·have KZ:=iO KY.out (ho.mono (S':=fun k=>w.heap.size<=k) fun k hk=>Or.elim hk (fun e=>X9) (fun e=>YF));refine bodyPost_ret (v:=.tuple #[.agg cZ,.int .i64 x.1,.int .i64 x.2]) ZI rfl ⟨by rw[HE.out x hx];rfl,?_⟩;have uR:=oO w6 w.heap.size (.string ⟨#[]⟩) (.slice none 0 0) (.slice none 0 0) (.slice none 0 0) (.slice none 0 0) (.bool false) (.slice none 0 0) (.slice none 0 0) (.slice none 0 0);unfold set9 at uR;exact iO KZ (uR.mono fun k hk=>Nat.le_of_eq (Eq.symm hk))
  have KZ:=iO KY.out (ho.mono (S':=fun k=>w.heap.size<=k) fun k hk=>Or.elim hk (fun e=>X9) (fun e=>YF));have yS:=GY.out.size;have uR:=oO w6 w.heap.size (.string m.name) (.slice au nu du) (.slice av nv dv) (.slice ai ni di) (.slice af nf df) (.bool m.moves) (.slice ao no do_) (.slice aw nw dw) (.slice ab nb db);have I6:=jL.wide (N':=bP w.heap.size) (jL.off NX uR (fun b' L3 hn=>ZJ)) (fun b' L3 _=>by have hn:=Nat.le_trans yS L3;show w.heap.size<=b';omega);unfold set9 at uR I6;refine bodyPost_ret (v:=.tuple #[oA m.name au nu du av nv dv ai ni di af nf df m.moves ao no do_ aw nw dw ab nb db,.int .i64 0,.int .i64 0]) ZI rfl ⟨?_,iO KZ (uR.mono fun k hk=>Nat.le_of_eq (Eq.symm hk))⟩;rw[HK.out m j hx];exact⟨au,nu,du,av,nv,dv,ai,ni,di,af,nf,df,ao,no,do_,aw,nw,dw,ab,nb,db,rfl,I6⟩
theorem U8{p:Prop}(h:p:=by
 go_wp2_with fail;go_ret
 exact⟨aF (by rw[HT.out,<-HD.out]),HB.out⟩):p:=h
theorem VE{p:Prop}(h:p:=by
 go_roundw;case rel=>exact⟨q+1,VS,WH,zh (aA HB.out (aA (aC _ _) pN)),tQ⟩
 case measure=>simp[intOf];omega):p:=h
def RightTyAll:Prop:=∀(d:Nat)(t:Ty)(N:Nat->Prop)(k:Int)(vf:Value)(w:World),d<=100->hZ w->eX N w t [.int .i64 k,vf]->
  Calls Tryz.prog 94 #[.agg #[.int .i64 k,vf],.int .i64 (d:Int)] w fun e w'=>e=.returned (.bool (aQ d t))/\Below w.heap.size w w'
def RightXpAll:Prop:=∀(d:Nat)(x:Xp)(N:Nat->Prop)(op n:Int)(s m:bA)(vn va:Value)(w:World),d<=100->hZ w->aU N w x [.int .i64 op,.int .i64 n,.string s,.string m,vn,va]->
  Calls Tryz.prog 92 #[jA op n s m vn va,.int .i64 (d:Int)] w fun e w'=>e=.returned (.bool (aJ d x))/\Below w.heap.size w w'
theorem lO(hT:RightTyAll)(t:Ty)(N:Nat->Prop)(k:Int)(vf:Value)(w:World)(hg:hZ w)(he:eX N w t [.int .i64 k,vf]):
  Calls Tryz.prog 29 #[.agg #[.int .i64 k,vf]] w fun e w'=>e=.returned (.bool (aQ 4 t))/\Below w.heap.size w w':=by
 have hb:=aC w (.cells #[.int .i64 k,vf] 45);have HT:=zh (hT 4 t N k vf _ VU (hg.later hb) (cB _ _ _ _ _ _ (aK.later hb) he));obtain⟨a,n,c,rfl⟩:=encT_slice he;generalize aQ 4 t=r at *;clear hT hg he;go_enter Tryz.func29,Tryz.ntmps29;go_wp2_with(go_at_call 94;refine HT.out.mono ?_;rintro e w2 ⟨rfl,pM⟩);go_ret;exact⟨rfl,aA hb pM⟩
theorem jM(hX:RightXpAll)(x:Xp)(N:Nat->Prop)(op n:Int)(s m:bA)(vn va:Value)(w:World)(hg:hZ w)(he:aU N w x [.int .i64 op,.int .i64 n,.string s,.string m,vn,va]):
  Calls Tryz.prog 27 #[jA op n s m vn va] w fun e w'=>e=.returned (.bool (aJ 12 x))/\Below w.heap.size w w':=by
 have hb:=aC w (oBx19 op n s m vn va);have HT:=zh (hX 12 x N op n s m vn va _ VU (hg.later hb) (aG _ _ _ _ _ _ (aK.later hb) he));obtain⟨⟨a1,n1,c1,rfl⟩,a2,n2,c2,rfl⟩:=jE he;generalize aJ 12 x=r at *;clear hX hg he;go_enter Tryz.func27,Tryz.ntmps27;go_wp2_with(go_at_call 92;refine HT.out.mono ?_;rintro e w2 ⟨rfl,pM⟩);go_ret;exact⟨rfl,aA hb pM⟩
theorem all_at{α:Type}{p:α->Bool}{l:List α}{q:Nat}{x:α}(hx:l[q]? =some x):(l.drop q).all p=(p x&&(l.drop (q+1)).all p):=by
 obtain⟨hk,he⟩:=Yb.1 hx;rw[List.drop_eq_getElem_cons hk,he,List.all_cons]
theorem nY(hX:RightXpAll)(l:List Xp)(n:Nat)(N:Nat->Prop)(v:Value)(w:World)(hn:n<=1000)(hg:hZ w)(he:aO 6 aU N w v l):
  Calls Tryz.prog 81 #[v,.int .i64 (n:Int)] w fun e w'=>e=.returned (.bool (dE l n))/\Below w.heap.size w w':=by
 have HG:=zh (fun W(hb:Below w.heap.size w W)=>hg.later hb);have HX:=zh hX;have hlb:l.length<=9223372036854775807:=by obtain⟨_,_,_,h1,h2,-⟩:=he;omega
 have IU:(n:Int)<=1000:=VS;have HR:Hid (dE l n=(l.all (aJ 12)&&decide (l.length=n))):=zh rfl;have HD:Hid (((l.length:Int)==(n:Int))=decide (l.length=n)):=zh WX;clear hg hX;rcases he.cases VU with⟨rfl,a,c,rfl⟩|⟨b,o,c,rfl,h0,h1,h2,hb,hN,hc⟩
 ·clear he;go_enter Tryz.func81,Tryz.ntmps81;go_wp2_with fail;go_loop [9] (fun i=>i=.int .i64 0) (fun _=>0)
  case atStart=>rfl
  case round=>
   subst hrel;go_wp2_with fail;go_ret;exact⟨aF (by rw[HR.out,<-HD.out];rfl),Below.refl _ _⟩
 have HC:=zh hc;clear hc he;go_enter Tryz.func81,Tryz.ntmps81;go_wp2_with fail;go_loopw [9] (fun iv wr=>∃q:Nat,q<=l.length/\iv=.int .i64 (q:Int)/\Hid (Below w.heap.size w wr)/\Hid (l.all (aJ 12)=(l.drop q).all (aJ 12))) (fun iv _=>l.length-(intOf iv).toNat)
 case atStart=>exact⟨0,Nat.zero_le _,rfl,zh (Below.refl _ _),zh rfl⟩
 case round=>
  obtain⟨q,hq,rfl,HB,qO⟩:=hrel;rename World=>wr
  by_cases pS:q<l.length
  ·obtain⟨x,hx,-⟩:=getElem?_of_lt pS;obtain⟨cs,tI,-,hj⟩:=HC.out q x hx;have rN:=zh (qO.out.trans (all_at hx))
   cases x with
   |mk sH n2 s2 m2 names2 args2=>
    have xF:=tI;rw[aN] at xF;obtain⟨vn2,va2,rfl,-,-,FC,zK⟩:=xF;obtain⟨a1,cc1,rfl,-⟩:=FC;obtain⟨a2,cc2,rfl,-⟩:=zK;have c0:wr.cell? ⟨b,o+q*6,none⟩=some (.int .i64 sH):=aB HB.out (hj 0 _ rfl);have c1:=aB HB.out (hj 1 _ rfl);have c2:=aB HB.out (hj 2 _ rfl);have c3:=aB HB.out (hj 3 _ rfl);have c4:=aB HB.out (hj 4 _ rfl);have c5:=aB HB.out (hj 5 _ rfl);have HL:=zh (fun W(h:Below w.heap.size w W)=>jM HX.out (.mk sH n2 s2 m2 names2 args2) N sH n2 s2 m2 _ _ W (HG.out W h) (aG _ _ _ _ _ _ (aK.later h) tI));clear hj tI hx;generalize aJ 12 (.mk sH n2 s2 m2 names2 args2)=r0 at HL rN;generalize names2.length=ln at *;generalize args2.length=la at *
    cases r0 with
    |false=>
     have HF:Hid (dE l n=false):=zh (by rw[HR.out,rN.out];rfl);clear rN qO;go_wp2_with(go_at_call 27;refine(HL.out _ (aA HB.out (aC _ _))).mono ?_;rintro e w1 ⟨rfl,pN⟩);go_ret;exact⟨aF WI,aA HB.out (aA (aC _ _) pN)⟩
    |true=>
     have tQ:Hid (l.all (aJ 12)=(l.drop (q+1)).all (aJ 12)):=zh (by rw[rN.out];rfl);clear rN qO;go_wp2_with(go_at_call 27;refine(HL.out _ (aA HB.out (aC _ _))).mono ?_;rintro e w1 ⟨rfl,pN⟩);exact VE
  have uM:q=l.length:=VS;have HT:Hid (dE l n=decide (l.length=n)):=zh (by rw[HR.out,qO.out,uM,List.drop_length];rfl);exact U8
theorem TC{p:Prop}(h:p:=by
 go_enter Tryz.func163,Tryz.ntmps163;go_wp2_with fail;go_ret
 exact⟨aF (by rw[HR.out];decide),hb⟩):p:=h
theorem UD{p:Prop}(h:p:=by
 go_wp2_with fail;go_ret
 exact⟨aF WP,hb⟩):p:=h
def fS(x:Xp)(op n:Int)(s m:bA)(vn va:Value)(w:World):Prop:=Calls Tryz.prog 163 #[jA op n s m vn va] w fun e w'=>e=.returned (.bool (gE x))/\Below w.heap.size w w'
theorem leaf_0(n:Int)(s m:bA)(names:List bA)(args:List Xp)(a1:Option Addr)(n1 c1:Nat)(a2:Option Addr)(c2:Nat)(w:World)(hg:hZ w)(hs:s.size<=8000)(hm:m.size<=8000):fS (.mk 0 n s m names args) 0 n s m (.slice a1 n1 c1) (.slice a2 args.length c2) w:=by
 unfold fS;have hb:=aC w (aH 0 n s m a1 n1 c1 a2 args.length c2);have HR:Hid (gE (.mk 0 n s m names args)=(decide (0<=n)&&decide (n<=1099511627776))):=zh rfl;clear hg;by_cases h1:0<=n
 ·by_cases h2:n<=1099511627776
  ·rw[decide_eq_true h1,decide_eq_true h2] at HR;go_enter Tryz.func163,Tryz.ntmps163;exact UD
  rw[decide_eq_true h1,decide_eq_false h2] at HR;go_enter Tryz.func163,Tryz.ntmps163;exact UD
 rw[decide_eq_false h1] at HR;go_enter Tryz.func163,Tryz.ntmps163;exact UD
theorem leaf_1(n:Int)(s m:bA)(names:List bA)(args:List Xp)(a1:Option Addr)(n1 c1:Nat)(a2:Option Addr)(c2:Nat)(w:World)(hg:hZ w)(hs:s.size<=8000)(hm:m.size<=8000):fS (.mk 1 n s m names args) 1 n s m (.slice a1 n1 c1) (.slice a2 args.length c2) w:=by
 unfold fS;have hb:=aC w (aH 1 n s m a1 n1 c1 a2 args.length c2);have HR:Hid (gE (.mk 1 n s m names args)=(decide (n=0)||decide (n=1))):=zh rfl;clear hg;by_cases h0:n=0
 ·subst h0;exact TC
 have g0:(n==0)=false:=by rw[beq_eq_false_iff_ne];exact h0
 by_cases h1:n=1
 ·subst h1;exact TC
 have g1:(n==1)=false:=by rw[beq_eq_false_iff_ne];exact h1
 go_enter Tryz.func163,Tryz.ntmps163;go_wp2_with fail;go_ret;exact⟨aF (by rw[HR.out];simp[h0,h1]),hb⟩
theorem leaf_16(n:Int)(s m:bA)(names:List bA)(args:List Xp)(a1:Option Addr)(n1 c1:Nat)(a2:Option Addr)(c2:Nat)(w:World)(hg:hZ w)(hs:s.size<=8000)(hm:m.size<=8000):fS (.mk 16 n s m names args) 16 n s m (.slice a1 n1 c1) (.slice a2 args.length c2) w:=by
 unfold fS;have hb:=aC w (aH 16 n s m a1 n1 c1 a2 args.length c2);have HR:Hid (gE (.mk 16 n s m names args)=(decide (n=1)||decide (n=2)||decide (n=4)||decide (n=8))):=zh rfl;clear hg;by_cases h1:n=1
 ·subst h1;exact TC
 have g1:(n==1)=false:=by rw[beq_eq_false_iff_ne];exact h1
 by_cases h2:n=2
 ·subst h2;exact TC
 have g2:(n==2)=false:=by rw[beq_eq_false_iff_ne];exact h2
 by_cases h4:n=4
 ·subst h4;exact TC
 have g4:(n==4)=false:=by rw[beq_eq_false_iff_ne];exact h4
 by_cases h8:n=8
 ·subst h8;exact TC
 have g8:(n==8)=false:=by rw[beq_eq_false_iff_ne];exact h8
 go_enter Tryz.func163,Tryz.ntmps163;go_wp2_with fail;go_ret;exact⟨aF (by rw[HR.out];simp[h1,h2,h4,h8]),hb⟩
theorem oY(op:Int)(ho:op=2\/op=17\/op=18\/op=14\/op=12)(n:Int)(s m:bA)(names:List bA)(args:List Xp)(a1:Option Addr)(n1 c1:Nat)(a2:Option Addr)(c2:Nat)(w:World)(hg:hZ w)(hs:s.size<=8000)(hm:m.size<=8000):fS (.mk op n s m names args) op n s m (.slice a1 n1 c1) (.slice a2 args.length c2) w:=by
 unfold fS;have hb:=aC w (aH op n s m a1 n1 c1 a2 args.length c2);have HR:Hid (gE (.mk op n s m names args)=aP s):=zh (by rcases ho with rfl|rfl|rfl|rfl|rfl<;>rfl);have HS:=zh (iL s _ VS (hg.later hb));generalize aP s=r at *;clear hg;rcases ho with rfl|rfl|rfl|rfl|rfl
 all_goals
  go_enter Tryz.func163,Tryz.ntmps163;go_wp2_with(go_at_call 17;refine HS.out.mono ?_;rintro e w2 ⟨rfl,rfl⟩);go_ret;exact⟨aF ZD,hb⟩
theorem leaf_15(n:Int)(s m:bA)(names:List bA)(args:List Xp)(a1:Option Addr)(n1 c1:Nat)(a2:Option Addr)(c2:Nat)(w:World)(hg:hZ w)(hs:s.size<=8000)(hm:m.size<=8000):fS (.mk 15 n s m names args) 15 n s m (.slice a1 n1 c1) (.slice a2 args.length c2) w:=by
 unfold fS;have hb:=aC w (aH 15 n s m a1 n1 c1 a2 args.length c2);have HR:Hid (gE (.mk 15 n s m names args)=(aP s&&(decide (m=noB)||aP m)&&decide (args.length<=6))):=zh rfl;have HS:=zh (iL s _ VS (hg.later hb));have HM:=zh (iL m _ VS (hg.later hb));clear hg;have HL:Hid (decide ((args.length:Int)<=6)=decide (args.length<=6)):=zh WX
 cases vG:aP s with
 |false=>
  rw[vG] at HS HR;clear HM vG;go_enter Tryz.func163,Tryz.ntmps163;go_wp2_with fail;go_at_call 17;refine HS.out.mono ?_;rintro e w2 ⟨rfl,rfl⟩;exact UD
 |true=>
  rw[vG] at HS HR;clear vG;by_cases zZ:m=noB
  ·subst zZ;clear HM;go_enter Tryz.func163,Tryz.ntmps163;go_wp2_with fail;go_at_call 17;refine HS.out.mono ?_;rintro e w2 ⟨rfl,rfl⟩;go_wp2_with fail;go_ret;exact⟨aF (by rw[HR.out];rw[<-HL.out];rfl),hb⟩
  have AN:(m.toList==[])=false:=by rw[beq_eq_false_iff_ne];intro e;exact zZ (lR e)
  rw[decide_eq_false zZ] at HR;clear zZ
  cases hmn:aP m with
  |false=>
   rw[hmn] at HM HR;clear hmn;go_enter Tryz.func163,Tryz.ntmps163;go_wp2_with fail;go_at_call 17;refine HS.out.mono ?_;rintro e w2 ⟨rfl,rfl⟩;go_wp2_with fail;go_at_call 17;refine HM.out.mono ?_;rintro e w3 ⟨rfl,rfl⟩;exact UD
  |true=>
   rw[hmn] at HM HR;clear hmn;go_enter Tryz.func163,Tryz.ntmps163;go_wp2_with fail;go_at_call 17;refine HS.out.mono ?_;rintro e w2 ⟨rfl,rfl⟩;go_wp2_with fail;go_at_call 17;refine HM.out.mono ?_;rintro e w3 ⟨rfl,rfl⟩;go_wp2_with fail;go_ret;exact⟨aF (by rw[HR.out];rw[<-HL.out];rfl),hb⟩
theorem jK(op:Int)(ho:op=3\/op=4\/op=5\/op=6\/op=7\/op=8\/op=9\/op=10\/op=11)(n:Int)(s m:bA)(names:List bA)(args:List Xp)(a1:Option Addr)(n1 c1:Nat)(a2:Option Addr)(c2:Nat)(w:World)(hg:hZ w)(hs:s.size<=8000)(hm:m.size<=8000):fS (.mk op n s m names args) op n s m (.slice a1 n1 c1) (.slice a2 args.length c2) w:=by
 unfold fS;have hb:=aC w (aH op n s m a1 n1 c1 a2 args.length c2);have HR:Hid (gE (.mk op n s m names args)=true):=zh (by rcases ho with rfl|rfl|rfl|rfl|rfl|rfl|rfl|rfl|rfl<;>rfl);clear hg;rcases ho with rfl|rfl|rfl|rfl|rfl|rfl|rfl|rfl|rfl
 all_goals
  go_enter Tryz.func163,Tryz.ntmps163;go_wp2_with fail;go_ret;exact⟨aF ZD,hb⟩
theorem TM{p:Prop}(h:p:=by
 refine zq 19 (.bool true) rfl ?_;refine zq 20 (.bool true) rfl ?_;refine zu 21 rfl ?_;refine zu 22 rfl ?_;refine zu 23 rfl ?_;refine zu 24 rfl ?_;refine zu 25 rfl ?_;refine zu 26 rfl ?_;refine zq 27 (.bool true) rfl ?_;try simp only[zn]
 refine wpAnyH_done VT ?_ _;go_wp2_with fail;go_ret
 exact⟨aF WI,aA HB.out (aA (aC _ _) (aE _))⟩):p:=h
theorem TY{p:Prop}(h:p:=by
 go_enter Tryz.func94,Tryz.ntmps94;go_wp2_with fail;go_ret
 exact⟨aF WI,aC _ _⟩):p:=h
theorem UH{p:Prop}(h:p:=by
 go_enter Tryz.func94,Tryz.ntmps94;go_wp2_with fail;go_loop [39] (fun i=>i=.int .i64 0) (fun _=>0)
 case atStart=>rfl
 case round=>
  subst hrel;go_wp2_with fail;go_ret
  exact⟨aF (by rw[HT.out]),aC _ _⟩):p:=h
theorem UO{p:Prop}(h:p:=by
 go_ret
 exact⟨aF WI,rR.out⟩):p:=h
theorem fieldsOk_at{p:Ty->Bool}{fs:List Fld}{q:Nat}{nm:bA}{t:Ty}(hx:fs[q]? =some (nm,t))(before:Option bA):eS p before (fs.drop q)=(aP nm&&(match before with|none=>true|some b=>gtB nm b)&&p t&&eS p (some nm) (fs.drop (q+1))):=by
 obtain⟨hk,he⟩:=Yb.1 hx;rw[List.drop_eq_getElem_cons hk,he];rfl
def nA(fs:List Fld)(q:Nat):Option bA:=if q=0 then none else(fs[q-1]?).map (·.1)
theorem nS(t:TypeId)(a b:bA)(w:World):(binOp .leq t (.string a) (.string b)).run Tryz.prog w=.ok (.bool (!gtB a b)) w:=by
 simp[binOp,Op.stringOp,gtB]
def RightTyAt(d:Nat):Prop:=∀(t:Ty)(N:Nat->Prop)(k:Int)(vf:Value)(w:World),d<=100->hZ w->eX N w t [.int .i64 k,vf]->
  Calls Tryz.prog 94 #[.agg #[.int .i64 k,vf],.int .i64 (d:Int)] w fun e w'=>e=.returned (.bool (aQ d t))/\Below w.heap.size w w'
theorem rightType_zero:RightTyAt 0:=by
  intro t N k vf w _ hg he
  cases t with
  |mk kind fs=>
   have HR:Hid (aQ 0 (.mk kind fs)=false):=zh rfl;obtain⟨a,n,c,rfl⟩:=encT_slice he;clear he hg;go_enter Tryz.func94,Tryz.ntmps94;go_wp2_with fail;go_ret;exact⟨aF ZD,aC _ _⟩
theorem rightType_step(d:Nat)(IH:RightTyAt d):RightTyAt (d+1):=by
  rintro⟨kind,fs⟩ N k' vf w hd hg he;have zM:=he;rw[dY] at he;obtain⟨vf',hv,hr⟩:=he;cases hv;have RA:=zh (fun t N k vf w h2 h3=>IH t N k vf w VS h2 h3);have HG:=zh (fun W(hb:Below w.heap.size w W)=>hg.later hb);have HE0:=zh zM;have wI:((d+1:Nat):Int)=(d:Int)+1:=VS;rw[wI];have hd0:((d:Int)+1==0)=false:=V7;have LY:(d:Int)<=100:=VS;have HR:Hid (aQ (d+1) (.mk kind fs)=(decide (0<=kind)&&decide (kind<3)&&decide (fs.length<=8)&&(decide (kind=2)||decide (fs.length=0))&&eS (aQ d) none fs)):=zh rfl;clear wI hg zM
  have xA:Hid (¬(0<=kind/\kind<3/\fs.length<=8/\(kind=2\/fs.length=0))->aQ (d+1) (.mk kind fs)=false):=zh (fun h=>by
   rw[HR.out]
   cases hb:(decide (0<=kind)&&decide (kind<3)&&decide (fs.length<=8)&&(decide (kind=2)||decide (fs.length=0))&&eS (aQ d) none fs) with
   |false=>rfl
   |true=>
    simp only[Bool.and_eq_true,Bool.or_eq_true,decide_eq_true_eq] at hb
    exact absurd ⟨hb.1.1.1.1,hb.1.1.1.2,hb.1.1.2,hb.1.2⟩ h)
  obtain⟨a,c,rfl,hlc⟩:∃a c,vf=.slice a fs.length c/\fs.length<=c:=by obtain⟨a,c,h1,h2,-⟩:=hr;exact⟨a,c,h1,h2⟩
  have hlb:fs.length<=9223372036854775807:=by obtain⟨_,_,_,h1,h2,-⟩:=hr;omega
  by_cases g1:0<=kind
  ·have g1':¬kind<0:=VS;by_cases g2:kind<3
   ·have g2':¬3<=kind:=VS;by_cases g3:fs.length<=8
    ·have g3':¬(8:Int)<(fs.length:Int):=VS;by_cases g4:kind=2\/fs.length=0
     ·have sS:Hid (aQ (d+1) (.mk kind fs)=eS (aQ d) none fs):=zh (by rw[HR.out,decide_eq_true g1,decide_eq_true g2,decide_eq_true g3];rcases g4 with h|h<;>simp[h]);have hrc:=hr.cases VU;clear xA HR;rcases hrc with⟨rfl,a',c',hv⟩|⟨b,o,c',hv,h0,h1,h2,hb,hN,hc⟩
      ·have HT:Hid (aQ (d+1) (.mk kind [])=true):=zh sS.out;clear sS hv hr hlc hlb g4 g3 g3';by_cases g5:kind=2
       ·(have h5:(kind != 2)=false:=by rw[bne_eq_false_iff_eq];exact g5);clear g5;exact UH
       (have h5:(kind != 2)=true:=by rw[bne_iff_ne];exact g5);exact UH
      cases hv;(have hk:kind=2:=by rcases g4 with h|h;(exact h);omega);(have h5:(kind != 2)=false:=by rw[bne_eq_false_iff_eq];exact hk);have HC:=zh hc;have NC:=zh (bY w (dT kind (some ⟨b,o,none⟩) fs.length c));clear hc hr g4 hk;go_enter Tryz.func94,Tryz.ntmps94;go_wp2_with fail;(go_loopw [39] (fun iv wr=>∃q:Nat,q<=fs.length/\iv=.int .i64 (q:Int)/\Hid (Below (w.alloc (dT kind (some ⟨b,o,none⟩) fs.length c)).heap.size (w.alloc (dT kind (some ⟨b,o,none⟩) fs.length c)) wr)/\Hid (aQ (d+1) (.mk kind fs)=eS (aQ d) (nA fs q) (fs.drop q))) (fun iv _=>fs.length-(intOf iv).toNat));case atStart=>exact⟨0,Nat.zero_le _,rfl,zh (Below.refl _ _),sS⟩
      case round=>
       obtain⟨q,hq,rfl,qN,qO⟩:=hrel;(rename World=>wr);have HB:=zh (aA (aC w (dT kind (some ⟨b,o,none⟩) fs.length c)) qN.out);by_cases pS:q<fs.length
       ·obtain⟨x,hx,-⟩:=getElem?_of_lt pS;obtain⟨cs,⟨ct,rfl,hn,tI⟩,-,hj⟩:=HC.out q x hx;obtain⟨nm,ty⟩:=x
        cases ty with
        |mk k2 f2=>
         have xF:=tI;rw[dY] at xF;obtain⟨vf2,rfl,zK⟩:=xF;obtain⟨a2,c2,rfl,-⟩:=zK;generalize f2.length=n2 at *;have p0:wr.cell? ⟨b,o+q*3,none⟩=some (.string nm):=aB HB.out (hj 0 _ rfl);have p1:=aB HB.out (hj 1 _ rfl);have p2:=aB HB.out (hj 2 _ rfl);have HL:=zh (fun W(h:Below w.heap.size w W)=>RA.out (.mk k2 f2) N k2 _ W (HG.out W h) (cB _ _ _ _ _ _ (aK.later h) tI));have rN:=zh (qO.out.trans (fieldsOk_at hx (nA fs q)));(have hpv:nA fs (q+1)=some nm:=by unfold nA;rw[if_neg VS,Nat.add_sub_cancel,hx];rfl);rw[<-hpv] at rN;have tT:nm.size<=8000:=hn;clear hj hpv tI hn;generalize aQ d (.mk k2 f2)=r0 at HL rN;go_wp2_with fail;obtain⟨q0,q1,q2,-⟩:=bxT3 (bY wr (bZ nm k2 a2 n2 c2));obtain⟨t0,t1,-⟩:=bxT2 (aD (aA qN.out (aC wr (bZ nm k2 a2 n2 c2))) NC.out)
         cases vG:aP nm with
         |false=>
          have HF:Hid (aQ (d+1) (.mk kind fs)=false):=zh (by rw[rN.out,vG];rfl);clear rN qO;refine wp_region_held_drew (S:=(fun W=>Below (wr.alloc (bZ nm k2 a2 n2 c2)).heap.size (wr.alloc (bZ nm k2 a2 n2 c2)) W)) VT (aE _) fun hS=>?_;refine zq 0 (.pointer (some ⟨wr.heap.size,0,none⟩)) rfl ?_;refine zt 1 (.string nm) rfl (fun W hW=>V1) ?_;(try simp only[zn]);refine zr 2 rfl (fun K hK=>?_);(try simp only[z1,z2,z3]);go_simp;refine(iL nm (wr.alloc (bZ nm k2 a2 n2 c2)).drew VS (HG.out _ (aA HB.out (aA (aC _ _) (aE _))))).mono ?_;rintro e w5 ⟨rfl,rfl⟩;rw[vG];refine hK.out _ _ hS (fun hS=>?_);clear hK K;refine zq 3 (.bool true) rfl ?_;refine zq 4 (.bool true) rfl ?_;refine zu 5 rfl ?_;refine zu 6 rfl ?_;refine zu 7 rfl ?_;refine zu 8 rfl ?_;refine zu 9 rfl ?_;refine zu 10 rfl ?_;refine zu 11 rfl ?_;refine zu 12 rfl ?_;refine zu 13 rfl ?_;refine zu 14 rfl ?_;refine zu 15 rfl ?_;refine zu 16 rfl ?_;refine zu 17 rfl ?_;refine zu 18 rfl ?_;exact TM
         |true=>
          by_cases sL:q=0
          ·subst sL;have tQ:Hid (aQ (d+1) (.mk kind fs)=(r0&&eS (aQ d) (nA fs (0+1)) (fs.drop (0+1)))):=zh (by rw[rN.out,vG];simp[nA]);clear rN qO;refine wp_region_held_drew (S:=(fun W=>Below (wr.alloc (bZ nm k2 a2 n2 c2)).heap.size (wr.alloc (bZ nm k2 a2 n2 c2)) W)) VT (aE _) fun hS=>?_;refine zq 0 (.pointer (some ⟨wr.heap.size,0,none⟩)) rfl ?_;refine zt 1 (.string nm) rfl (fun W hW=>V1) ?_;(try simp only[zn]);refine zr 2 rfl (fun K hK=>?_);(try simp only[z1,z2,z3]);go_simp;refine(iL nm (wr.alloc (bZ nm k2 a2 n2 c2)).drew VS (HG.out _ (aA HB.out (aA (aC _ _) (aE _))))).mono ?_;rintro e w5 ⟨rfl,rfl⟩;rw[vG];refine hK.out _ _ hS (fun hS=>?_);clear hK K;refine zq 3 (.bool false) rfl ?_;refine zq 4 (.bool false) rfl ?_;refine zq 5 (.int .i64 0) rfl ?_;refine zq 6 (.bool false) rfl ?_;refine zq 7 (.bool false) rfl ?_;refine zu 8 rfl ?_;refine zu 9 rfl ?_;refine zu 10 rfl ?_;refine zu 11 rfl ?_;refine zu 12 rfl ?_;refine zu 13 rfl ?_;refine zu 14 rfl ?_;refine zu 15 rfl ?_;refine zu 16 rfl ?_;refine zu 17 rfl ?_;refine zq 18 (.bool false) rfl ?_;refine zq 19 (.bool false) rfl ?_;refine zq 20 (.bool false) rfl ?_;refine zq 21 (.pointer (some ⟨wr.heap.size,1,none⟩)) rfl ?_;refine zt 22 (.agg #[.int .i64 k2,.slice a2 n2 c2]) rfl (fun W hW=>V1) ?_;refine zq 23 (.int .i64 ((d:Int)+1)) rfl ?_;refine zt 24 (.int .i64 (d:Int)) rfl (fun W hW=>YN) ?_;(try simp only[zn]);refine zr 25 rfl (fun K hK=>?_);(try simp only[z1,z2,z3]);go_simp;refine(HL.out _ (aA HB.out (aA (aC _ _) (aE _)))).mono ?_;rintro e w6 ⟨rfl,rV⟩;have P4:Below (wr.alloc (bZ nm k2 a2 n2 c2)).heap.size (wr.alloc (bZ nm k2 a2 n2 c2)) w6:=aA (aE _) rV;refine hK.out _ _ P4 (fun hS=>?_);clear hK K;refine zq 26 (.bool (!r0)) rfl ?_;refine zq 27 (.bool (!r0)) rfl ?_;(try simp only[zn]);refine wpAnyH_done VT ?_ _;have vK:=zh (aA qN.out (aA (aC wr (bZ nm k2 a2 n2 c2)) P4));have rR:=zh (aA (aC w (dT kind (some ⟨b,o,none⟩) fs.length c)) vK.out)
           cases r0 with
           |false=>
            have HF:Hid (aQ (d+1) (.mk kind fs)=false):=zh (by rw[tQ.out];rfl);clear tQ;go_wp2_with fail;exact UO
           |true=>
            have K4:Hid (aQ (d+1) (.mk kind fs)=eS (aQ d) (nA fs (0+1)) (fs.drop (0+1))):=zh (by rw[tQ.out];rfl);clear tQ hS P4 rV HL q0 q1 q2 t0 t1 p0 p1 p2;go_wp2_with fail;go_roundw;(case rel=>exact⟨0+1,VS,WH,vK,K4⟩);case measure=>simp[intOf];omega
          have yT:0<q:=VS;obtain⟨y,hy,-⟩:=getElem?_of_lt (l:=fs) (k:=q-1) VS;obtain⟨cs',⟨ct',rfl,zY,het'⟩,-,KW⟩:=HC.out (q-1) y hy;obtain⟨pn,ty'⟩:=y;have hp0:(wr.alloc (bZ nm k2 a2 n2 c2)).cell? ⟨b,o+(q-1)*3,none⟩=some (.string pn):=aB (aA HB.out (aC _ _)) (by have h:=KW 0 _ rfl;simpa using h);(have hpv:nA fs q=some pn:=by unfold nA;rw[if_neg sL,hy];rfl);rw[hpv] at rN;clear KW het' zY hpv
          cases BW:gtB nm pn with
          |false=>
           (have DN:∀W,(binOp .leq 9 (.string nm) (.string pn)).run Tryz.prog W=.ok (.bool true) W:=fun W=>by rw[nS,BW];rfl);have HF:Hid (aQ (d+1) (.mk kind fs)=false):=zh Y9;clear rN qO;refine wp_region_held_drew (S:=(fun W=>Below (wr.alloc (bZ nm k2 a2 n2 c2)).heap.size (wr.alloc (bZ nm k2 a2 n2 c2)) W)) VT (aE _) fun hS=>?_;refine zq 0 (.pointer (some ⟨wr.heap.size,0,none⟩)) rfl ?_;refine zt 1 (.string nm) rfl (fun W hW=>V1) ?_;(try simp only[zn]);refine zr 2 rfl (fun K hK=>?_);(try simp only[z1,z2,z3]);go_simp;refine(iL nm (wr.alloc (bZ nm k2 a2 n2 c2)).drew VS (HG.out _ (aA HB.out (aA (aC _ _) (aE _))))).mono ?_;rintro e w5 ⟨rfl,rfl⟩;rw[vG];refine hK.out _ _ hS (fun hS=>?_);clear hK K;refine zq 3 (.bool false) rfl ?_;refine zq 4 (.bool false) rfl ?_;refine zq 5 (.int .i64 (q:Int)) rfl ?_;refine zq 6 (.bool true) rfl ?_;refine zq 7 (.bool true) rfl ?_;refine zq 8 (.pointer (some ⟨wr.heap.size,0,none⟩)) rfl ?_;refine zt 9 (.string nm) rfl (fun W hW=>V1) ?_;refine zq 10 (.pointer (some ⟨w.heap.size,1,none⟩)) rfl ?_;refine zt 11 (.slice (some ⟨b,o,none⟩) fs.length c) rfl (fun W hW=>V1) ?_;refine zq 12 (.int .i64 (q:Int)) rfl ?_;refine zt 13 (.int .i64 ((q:Int)-1)) rfl (fun W hW=>YJ) ?_;refine zt 14 (.pointer (some ⟨b,o+(q-1)*3,none⟩)) rfl (fun W hW=>W6) ?_;refine zq 15 (.pointer (some ⟨b,o+(q-1)*3,none⟩)) rfl ?_;refine zt 16 (.string pn) rfl (fun W hW=>XU) ?_;refine zt 17 (.bool true) rfl (fun W hW=>by have AO:=DN W;go_simp) ?_;refine zq 18 (.bool true) rfl ?_;exact TM
          |true=>
           (have DN:∀W,(binOp .leq 9 (.string nm) (.string pn)).run Tryz.prog W=.ok (.bool false) W:=fun W=>by rw[nS,BW];rfl);have tQ:Hid (aQ (d+1) (.mk kind fs)=(r0&&eS (aQ d) (nA fs (q+1)) (fs.drop (q+1)))):=zh Y9;clear rN qO;refine wp_region_held_drew (S:=(fun W=>Below (wr.alloc (bZ nm k2 a2 n2 c2)).heap.size (wr.alloc (bZ nm k2 a2 n2 c2)) W)) VT (aE _) fun hS=>?_;refine zq 0 (.pointer (some ⟨wr.heap.size,0,none⟩)) rfl ?_;refine zt 1 (.string nm) rfl (fun W hW=>V1) ?_;(try simp only[zn]);refine zr 2 rfl (fun K hK=>?_);(try simp only[z1,z2,z3]);go_simp;refine(iL nm (wr.alloc (bZ nm k2 a2 n2 c2)).drew VS (HG.out _ (aA HB.out (aA (aC _ _) (aE _))))).mono ?_;rintro e w5 ⟨rfl,rfl⟩;rw[vG];refine hK.out _ _ hS (fun hS=>?_);clear hK K;refine zq 3 (.bool false) rfl ?_;refine zq 4 (.bool false) rfl ?_;refine zq 5 (.int .i64 (q:Int)) rfl ?_;refine zq 6 (.bool true) rfl ?_;refine zq 7 (.bool true) rfl ?_;refine zq 8 (.pointer (some ⟨wr.heap.size,0,none⟩)) rfl ?_;refine zt 9 (.string nm) rfl (fun W hW=>V1) ?_;refine zq 10 (.pointer (some ⟨w.heap.size,1,none⟩)) rfl ?_;refine zt 11 (.slice (some ⟨b,o,none⟩) fs.length c) rfl (fun W hW=>V1) ?_;refine zq 12 (.int .i64 (q:Int)) rfl ?_;refine zt 13 (.int .i64 ((q:Int)-1)) rfl (fun W hW=>YJ) ?_;refine zt 14 (.pointer (some ⟨b,o+(q-1)*3,none⟩)) rfl (fun W hW=>W6) ?_;refine zq 15 (.pointer (some ⟨b,o+(q-1)*3,none⟩)) rfl ?_;refine zt 16 (.string pn) rfl (fun W hW=>XU) ?_;refine zt 17 (.bool false) rfl (fun W hW=>by have AO:=DN W;go_simp) ?_;refine zq 18 (.bool false) rfl ?_;refine zq 19 (.bool false) rfl ?_;refine zq 20 (.bool false) rfl ?_;refine zq 21 (.pointer (some ⟨wr.heap.size,1,none⟩)) rfl ?_;refine zt 22 (.agg #[.int .i64 k2,.slice a2 n2 c2]) rfl (fun W hW=>V1) ?_;refine zq 23 (.int .i64 ((d:Int)+1)) rfl ?_;refine zt 24 (.int .i64 (d:Int)) rfl (fun W hW=>YN) ?_;(try simp only[zn]);refine zr 25 rfl (fun K hK=>?_);(try simp only[z1,z2,z3]);go_simp;refine(HL.out _ (aA HB.out (aA (aC _ _) (aE _)))).mono ?_;rintro e w6 ⟨rfl,rV⟩;have P4:Below (wr.alloc (bZ nm k2 a2 n2 c2)).heap.size (wr.alloc (bZ nm k2 a2 n2 c2)) w6:=aA (aE _) rV;refine hK.out _ _ P4 (fun hS=>?_);clear hK K;refine zq 26 (.bool (!r0)) rfl ?_;refine zq 27 (.bool (!r0)) rfl ?_;(try simp only[zn]);refine wpAnyH_done VT ?_ _;have vK:=zh (aA qN.out (aA (aC wr (bZ nm k2 a2 n2 c2)) P4));have rR:=zh (aA (aC w (dT kind (some ⟨b,o,none⟩) fs.length c)) vK.out)
           cases r0 with
           |false=>
            have HF:Hid (aQ (d+1) (.mk kind fs)=false):=zh (by rw[tQ.out];rfl);clear tQ;go_wp2_with fail;exact UO
           |true=>
            have K4:Hid (aQ (d+1) (.mk kind fs)=eS (aQ d) (nA fs (q+1)) (fs.drop (q+1))):=zh (by rw[tQ.out];rfl);clear tQ hS P4 rV HL q0 q1 q2 t0 t1 p0 p1 p2;go_wp2_with fail;go_roundw;(case rel=>exact⟨q+1,VS,WH,vK,K4⟩);case measure=>simp[intOf];omega
       have uM:q=fs.length:=VS;have HT:Hid (aQ (d+1) (.mk kind fs)=true):=zh Y5;go_wp2_with fail;go_ret;exact⟨aF (by rw[HT.out]),HB.out⟩
     have h4:¬kind=2:=fun e=>g4 (.inl e);(have N3:(kind != 2)=true:=by rw[bne_iff_ne];exact h4);(have h5:(0:Int)<(fs.length:Int):=by have:¬fs.length=0:=fun e=>g4 (.inr e);omega);have HF:=zh (xA.out (fun h=>g4 h.2.2.2));clear xA g4;exact TY
    have g3':(8:Int)<(fs.length:Int):=VS;have HF:=zh (xA.out (fun h=>g3 h.2.2.1));clear xA;exact TY
   have g2':3<=kind:=VS;have HF:=zh (xA.out (fun h=>g2 h.2.1));clear xA;exact TY
  have g1':kind<0:=VS;have HF:=zh (xA.out (fun h=>g1 h.1));clear xA;exact TY
theorem lN:∀(d:Nat)(t:Ty)(N:Nat->Prop)(k:Int)(vf:Value)(w:World),d<=100->hZ w->eX N w t [.int .i64 k,vf]->
  Calls Tryz.prog 94 #[.agg #[.int .i64 k,vf],.int .i64 (d:Int)] w fun e w'=>e=.returned (.bool (aQ d t))/\Below w.heap.size w w':=fun d=>by
 induction d with
 |zero=>exact rightType_zero
 |succ d ih=>exact rightType_step d ih
theorem UT{p:Prop}(h:p:=by
 clear rN qO;go_wp2_with(go_at_call 17;refine(iM x wr yA (HG.out _ HB.out)).mono ?_;rintro e w5 ⟨rfl,rfl⟩;rw[vG]);go_ret
 exact⟨aF WI,HB.out⟩):p:=h
theorem iM(s:bA)(w:World)(hs:s.size<=140737488355328)(hg:hZ w):
  Calls Tryz.prog 17 #[.string s] w fun e w'=>e=.returned (.bool (aP s))/\w=w':=by
 exact SQ
theorem namesOk_at{l:List bA}{q:Nat}{x:bA}(hx:l[q]? =some x)(before:Option bA):cO before (l.drop q)=(aP x&&(match before with|none=>true|some b=>gtB x b)&&cO (some x) (l.drop (q+1))):=by
 obtain⟨hk,he⟩:=Yb.1 hx;rw[List.drop_eq_getElem_cons hk,he];rfl
def kL(l:List bA)(q:Nat):Option bA:=if q=0 then none else l[q-1]?
theorem leaf_13(n:Int)(s m:bA)(names:List bA)(args:List Xp)(N:Nat->Prop)(vn:Value)(a2:Option Addr)(n2 c2:Nat)(w:World)(hg:hZ w)(hr:aO 1 eT N w vn names):fS (.mk 13 n s m names args) 13 n s m vn (.slice a2 n2 c2) w:=by
 unfold fS;have HG:=zh (fun W(hb:Below w.heap.size w W)=>hg.later hb);have HR:Hid (gE (.mk 13 n s m names args)=(cO none names&&decide (names.length<=8))):=zh rfl;have HD:Hid (decide ((names.length:Int)<=8)=decide (names.length<=8)):=zh WX;clear hg;have hlb:names.length<=9223372036854775807:=by obtain⟨_,_,_,h1,h2,-⟩:=hr;omega
 rcases hr.cases VU with⟨rfl,a,c,rfl⟩|⟨b,o,c,rfl,h0,h1,h2,hb,hN,hc⟩
 ·clear hr;go_enter Tryz.func163,Tryz.ntmps163;go_wp2_with fail;go_loop [82] (fun i=>i=.int .i64 0) (fun _=>0)
  case atStart=>rfl
  case round=>
   subst hrel;go_wp2_with fail;go_ret;exact⟨aF WP,aC _ _⟩
 have HC:=zh hc;have NC:=zh (bY w (aH 13 n s m (some ⟨b,o,none⟩) names.length c a2 n2 c2));clear hc hr;go_enter Tryz.func163,Tryz.ntmps163;go_wp2_with fail;go_loopw [82] (fun iv wr=>∃q:Nat,q<=names.length/\iv=.int .i64 (q:Int)/\Hid (Below (w.alloc (aH 13 n s m (some ⟨b,o,none⟩) names.length c a2 n2 c2)).heap.size (w.alloc (aH 13 n s m (some ⟨b,o,none⟩) names.length c a2 n2 c2)) wr)/\Hid (gE (.mk 13 n s m names args)=(cO (kL names q) (names.drop q)&&decide (names.length<=8)))) (fun iv _=>names.length-(intOf iv).toNat)
 case atStart=>exact⟨0,Nat.zero_le _,rfl,zh (Below.refl _ _),HR⟩
 case round=>
  obtain⟨q,hq,rfl,qN,qO⟩:=hrel;rename World=>wr
  have HB:=zh (aA (aC w (aH 13 n s m (some ⟨b,o,none⟩) names.length c a2 n2 c2)) qN.out);obtain⟨⟨t0,t1,t2,t3,t4,t5⟩,-⟩:=bx6 (aD qN.out NC.out);by_cases pS:q<names.length
  ·obtain⟨x,hx,uE⟩:=getElem?_of_lt pS;obtain⟨cs,⟨rfl,yA⟩,-,hj⟩:=HC.out q x hx;have p0:wr.cell? ⟨b,o+q,none⟩=some (.string x):=aB HB.out XM;have rN:=zh (qO.out.trans (congrArg (fun z=>z&&decide (names.length<=8)) (namesOk_at hx (kL names q))));(have hpv:kL names (q+1)=some x:=by unfold kL;rw[if_neg VS,Nat.add_sub_cancel,hx]);rw[<-hpv] at rN;clear hj hpv uE
   cases vG:aP x with
   |false=>
    have HF:Hid (gE (.mk 13 n s m names args)=false):=zh (by rw[rN.out,vG];rfl);exact UT
   |true=>
    by_cases sL:q=0
    ·subst sL;(have CW:wr.cell? ⟨b,o,none⟩=some (.string x):=by simpa using p0);have tQ:Hid (gE (.mk 13 n s m names args)=(cO (kL names (0+1)) (names.drop (0+1))&&decide (names.length<=8))):=zh (by rw[rN.out,vG];simp[kL]);clear rN qO;go_wp2_with(go_at_call 17;refine(iM x wr yA (HG.out _ HB.out)).mono ?_;rintro e w5 ⟨rfl,rfl⟩;rw[vG]);go_roundw;(case rel=>exact⟨0+1,VS,WH,qN,tQ⟩);case measure=>simp[intOf];omega
    have yT:0<q:=VS;obtain⟨y,hy,-⟩:=getElem?_of_lt (l:=names) (k:=q-1) VS;obtain⟨cs',⟨rfl,-⟩,-,KW⟩:=HC.out (q-1) y hy;have hp0:wr.cell? ⟨b,o+(q-1),none⟩=some (.string y):=aB HB.out (by have h:=KW 0 _ rfl;simpa using h);(have hpv:kL names q=some y:=by unfold kL;rw[if_neg sL,hy]);rw[hpv] at rN;clear KW hpv;have wO:(0:Int)<(q:Int):=VS;have LR:(0:Int)<=(q:Int)-1:=VS;have PN:(q:Int)-1<(names.length:Int):=VS;have PM:((q:Int)-1).toNat=q-1:=VS;have hi4:¬(q:Int)<1:=VS
    cases BW:gtB x y with
    |false=>
     (have DN:∀W,(binOp .leq 9 (.string x) (.string y)).run Tryz.prog W=.ok (.bool true) W:=fun W=>by rw[nS,BW];rfl);have HF:Hid (gE (.mk 13 n s m names args)=false):=zh Y9;exact UT
    |true=>
     (have DN:∀W,(binOp .leq 9 (.string x) (.string y)).run Tryz.prog W=.ok (.bool false) W:=fun W=>by rw[nS,BW];rfl);have tQ:Hid (gE (.mk 13 n s m names args)=(cO (kL names (q+1)) (names.drop (q+1))&&decide (names.length<=8))):=zh Y9;clear rN qO;go_wp2_with(go_at_call 17;refine(iM x wr yA (HG.out _ HB.out)).mono ?_;rintro e w5 ⟨rfl,rfl⟩;rw[vG]);go_roundw;(case rel=>exact⟨q+1,VS,WH,qN,tQ⟩);case measure=>simp[intOf];omega
  have uM:q=names.length:=VS;have HT:Hid (gE (.mk 13 n s m names args)=decide (names.length<=8)):=zh Y5;exact U8
def cleanN(op n:Int):Int:=if op=0\/op=1\/op=16 then n else 0
def cleanS(op:Int)(s:bA):bA:=if op=2\/op=17\/op=18\/op=14\/op=12\/op=15 then s else noB
def cleanM(op:Int)(m:bA):bA:=if op=15 then m else noB
def cleanC(op:Int)(k:Nat):Int:=if op=0\/op=1\/op=2\/op=17 then 0 else if op=18\/op=14\/op=16\/op=10 then 1 else if op=11 then 3 else if op=13 then k else if op=15 then -1 else 2
theorem clean_all(op n:Int)(s m:bA)(a1:Option Addr)(n1 c1:Nat)(a2:Option Addr)(n2 c2:Nat)(w:World)(h0:0<=op)(h1:op<19):
  Calls Tryz.prog 162 #[bW op n s m a1 n1 c1 a2 n2 c2] w fun e w'=>e=.returned (.tuple #[.agg #[.int .i64 op,.int .i64 (cleanN op n),.string (cleanS op s),.string (cleanM op m),if op=13 then .slice a1 n1 c1 else .slice none 0 0,.slice a2 n2 c2],.int .i64 (cleanC op n1)])/\Below w.heap.size w w':=by
 obtain⟨V,HV⟩:∃V,Hid (V=Value.tuple #[.agg #[.int .i64 op,.int .i64 (cleanN op n),.string (cleanS op s),.string (cleanM op m),if op=13 then .slice a1 n1 c1 else .slice none 0 0,.slice a2 n2 c2],.int .i64 (cleanC op n1)]):=⟨_,zh rfl⟩;rw[<-HV.out];have hc:(op=0\/op=1\/op=2\/op=3\/op=4\/op=5\/op=6\/op=7\/op=8\/op=9\/op=10\/op=11\/op=12\/op=14\/op=16\/op=17\/op=18)\/op=13\/op=15:=VS;clear h0 h1;rcases hc with(rfl|rfl|rfl|rfl|rfl|rfl|rfl|rfl|rfl|rfl|rfl|rfl|rfl|rfl|rfl|rfl|rfl)|rfl|rfl
 all_goals
  go_enter Tryz.func162,Tryz.ntmps162;go_wp2_with fail;try go_region
  all_goals try go_wp2_with fail
  all_goals refine bodyPost_ret (v:=V) (by rw[HV.out];simp[results,Tryz.results162,go_sem,cleanN,cleanS,cleanM,cleanC,noB]) rfl ⟨rfl,?_⟩
  all_goals repeat(first|exact Below.refl _ _|refine Below.drew ?_|refine Below.alloc ?_ (by simp<;>omega) _|refine Below.setCell ?_ (by simp<;>omega) _)
theorem leaf_any(op n:Int)(s m:bA)(names:List bA)(args:List Xp)(N:Nat->Prop)(vn va:Value)(w:World)(h0:0<=op)(h1:op<19)(hg:hZ w)(he:aU N w (.mk op n s m names args) [.int .i64 op,.int .i64 n,.string s,.string m,vn,va]):
  fS (.mk op n s m names args) op n s m vn va w:=by
 rw[aN] at he;obtain⟨v1,v2,e,hs,hm,hn,a2,c2,rfl,-⟩:=he;cases e;have zY:=hn;obtain⟨a1,c1,rfl,-⟩:=zY;have hc:op=0\/op=1\/op=2\/op=3\/op=4\/op=5\/op=6\/op=7\/op=8\/op=9\/op=10\/op=11\/op=12\/op=13\/op=14\/op=15\/op=16\/op=17\/op=18:=VS;rcases hc with rfl|rfl|rfl|rfl|rfl|rfl|rfl|rfl|rfl|rfl|rfl|rfl|rfl|rfl|rfl|rfl|rfl|rfl|rfl
 ·exact leaf_0 n s m names args a1 names.length c1 a2 c2 w hg hs hm
 ·exact leaf_1 n s m names args a1 names.length c1 a2 c2 w hg hs hm
 ·exact oY 2 VY n s m names args a1 names.length c1 a2 c2 w hg hs hm
 ·exact jK 3 VY n s m names args a1 names.length c1 a2 c2 w hg hs hm
 ·exact jK 4 VY n s m names args a1 names.length c1 a2 c2 w hg hs hm
 ·exact jK 5 VY n s m names args a1 names.length c1 a2 c2 w hg hs hm
 ·exact jK 6 VY n s m names args a1 names.length c1 a2 c2 w hg hs hm
 ·exact jK 7 VY n s m names args a1 names.length c1 a2 c2 w hg hs hm
 ·exact jK 8 VY n s m names args a1 names.length c1 a2 c2 w hg hs hm
 ·exact jK 9 VY n s m names args a1 names.length c1 a2 c2 w hg hs hm
 ·exact jK 10 VY n s m names args a1 names.length c1 a2 c2 w hg hs hm
 ·exact jK 11 VY n s m names args a1 names.length c1 a2 c2 w hg hs hm
 ·exact oY 12 VY n s m names args a1 names.length c1 a2 c2 w hg hs hm
 ·exact leaf_13 n s m names args N _ a2 args.length c2 w hg hn
 ·exact oY 14 VY n s m names args a1 names.length c1 a2 c2 w hg hs hm
 ·exact leaf_15 n s m names args a1 names.length c1 a2 c2 w hg hs hm
 ·exact leaf_16 n s m names args a1 names.length c1 a2 c2 w hg hs hm
 ·exact oY 17 VY n s m names args a1 names.length c1 a2 c2 w hg hs hm
 exact oY 18 VY n s m names args a1 names.length c1 a2 c2 w hg hs hm
def CleanSays(op n:Int)(s m:bA)(a1:Option Addr)(n1 c1:Nat)(va:Value)(w:World):Prop:=Calls Tryz.prog 162 #[.agg #[.int .i64 op,.int .i64 n,.string s,.string m,.slice a1 n1 c1,va]] w fun e w'=>∃a3 n3 c3,e=.returned (.tuple #[.agg #[.int .i64 op,.int .i64 (cleanN op n),.string (cleanS op s),.string (cleanM op m),.slice a3 n3 c3,va],.int .i64 (cleanC op n1)])/\n3=(if op=13 then n1 else 0)/\Below w.heap.size w w'
theorem clean_any(op n:Int)(s m:bA)(a1:Option Addr)(n1 c1:Nat)(a2:Option Addr)(n2 c2:Nat)(w:World)(h0:0<=op)(h1:op<19):CleanSays op n s m a1 n1 c1 (.slice a2 n2 c2) w:=by
 by_cases h:op=13
 ·subst h;exact(clean_all 13 n s m a1 n1 c1 a2 n2 c2 w VS VS).mono fun e w' h=>⟨a1,n1,c1,h.1,rfl,h.2⟩
 refine(clean_all op n s m a1 n1 c1 a2 n2 c2 w h0 h1).mono fun e w' h2=>?_;rw[if_neg h] at h2;exact⟨none,0,0,h2.1,by rw[if_neg h],h2.2⟩
theorem cleanX_eq(op n:Int)(s m:bA)(names:List bA)(args:List Xp)(h0:0<=op)(h1:op<19):fN (.mk op n s m names args)=((cleanN op n,cleanS op s,cleanM op m,if op=13 then names else[]),cleanC op names.length):=by
 have hc:op=0\/op=1\/op=2\/op=3\/op=4\/op=5\/op=6\/op=7\/op=8\/op=9\/op=10\/op=11\/op=12\/op=13\/op=14\/op=15\/op=16\/op=17\/op=18:=VS;rcases hc with rfl|rfl|rfl|rfl|rfl|rfl|rfl|rfl|rfl|rfl|rfl|rfl|rfl|rfl|rfl|rfl|rfl|rfl|rfl<;>rfl
end Go.Proofs.YtiionicikdnnpaaGreatDoor
