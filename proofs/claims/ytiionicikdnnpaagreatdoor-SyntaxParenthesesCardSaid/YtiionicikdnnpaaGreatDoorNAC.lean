/- Texts of this seat, joined. -/
import Derived.Test.YtiionicikdnnpaaGreatDoorSynMo
import Derived.Test.YtiionicikdnnpaaGreatDoorNZ
set_option maxHeartbeats 8000000
set_option maxRecDepth 100000
set_option linter.unusedVariables false
set_option linter.unusedSimpArgs false
namespace Go.Proofs.YtiionicikdnnpaaGreatDoor
open Go.RowKit
theorem PP{p:Prop}(h:p:=by
 refine leaves_cons (f:=109) (args:=#[.pointer (some ⟨w.heap.size,0,none⟩),.pointer (some ⟨w.heap.size+1,0,none⟩)]) R2 (by simp[go_sem]) ?_;refine(catch_idle w.heap.size (w.heap.size+1) _).mono ?_;rintro e u' w4 ⟨rfl,rfl,rfl⟩;simp[Leaves,settle,results,Tryz.results42,go_sem,a0,b0];have oz:Off (fun k=>k=w.heap.size\/k=w.heap.size+1) w2 ((w2.setCell ⟨w.heap.size,0,none⟩ (.int .i64 0)).setCell ⟨w.heap.size+1,0,none⟩ (.int .i64 0)):=(Off.setCell (S:=fun k=>k=w.heap.size\/k=w.heap.size+1) w2 (.inl rfl)).trans (Off.setCell (S:=fun k=>k=w.heap.size\/k=w.heap.size+1) _ (.inr rfl));have rU:((w.alloc (kJ 0)).alloc (oT 0)).heap.size=w.heap.size+2:=R2
 exact .inr ⟨m,j,hx,rfl,hm.off oz (by rintro(e|e)<;>omega) (fun b hb hn=>by rw[rU] at hn;rcases hb with e|e<;>omega) (by rw[rU];omega),Off.fresh (((HO.out.trans ho).or w.heap.size).trans (oz.mono fun k hk=>.inr (by rcases hk with e|e<;>omega))) (Nat.le_refl _)⟩):p:=h
theorem PX{p:Prop}(h:p:=by
 clear a0 a1 b0 b1;refine leaves_cons (f:=109) (args:=#[.pointer (some ⟨w.heap.size,0,none⟩),.pointer (some ⟨w.heap.size+1,0,none⟩)]) R2 (by simp[go_sem]) ?_;refine(catch_fault w.heap.size (w.heap.size+1) x [] w2 A0.out pZ.out).mono ?_;rintro e u' w4 ⟨rfl,rfl,qD,h1,h3⟩;obtain⟨a0,a1⟩:=bx h1 0 (u:=.int .i64 x.1) rfl;obtain⟨b0,b1⟩:=bx h3 0 (u:=.int .i64 x.2) rfl;simp[Leaves,settle,results,Tryz.results42,go_sem,a0,b0]
 exact .inl ⟨x,hx,rfl,Off.fresh (((HO.out.trans ho).or w.heap.size).trans (qD.mono fun k hk=>.inr (by rcases hk with e|e<;>omega))) (Nat.le_refl _)⟩):p:=h
structure RunAt (p:Prs) (w:World) (pv mb:Nat):Prop where
 at_:p.At w 0
 hpv:w.heap[pv]? =some (.cells #[.pointer (some ⟨p.pb,0,none⟩)] 74)
 hmb:w.heap[mb]? =some (.cells cP 30)
 ne:mb≠p.pb/\pv≠p.pb/\pv≠mb
theorem RunAt.later{p:Prs}{w w':World}{pv mb:Nat}(h:RunAt p w pv mb)(hb:Below w.heap.size w w'):RunAt p w' pv mb:=⟨h.at_.later hb,aC hb h.hpv,aC hb h.hmb,h.ne⟩
def MdlAt(B:Nat)(w:World)(mb:Nat)(m:Mdl):Prop:=∃au nu du av nv dv ai ni di af nf df ao no do_ aw nw dw ab nb db,
 w.heap[mb]? =some (gZ m.name au nu du av nv dv ai ni di af nf df m.moves ao no do_ aw nw dw ab nb db)/\
 encM (bO B) w m [.string m.name,.slice au nu du,.slice av nv dv,.slice ai ni di,.slice af nf df,.bool m.moves,.slice ao no do_,.slice aw nw dw,.slice ab nb db]
theorem MdlAt.later{B:Nat}{w w':World}{mb:Nat}{m:Mdl}(h:MdlAt B w mb m)(hb:Below w.heap.size w w'):MdlAt B w' mb m:=by
 obtain⟨au,nu,du,av,nv,dv,ai,ni,di,af,nf,df,ao,no,do_,aw,nw,dw,ab,nb,db,h1,h2⟩:=h;exact⟨au,nu,du,av,nv,dv,ai,ni,di,af,nf,df,ao,no,do_,aw,nw,dw,ab,nb,db,aC hb h1,kO _ _ _ _ _ _ (aQ.later hb) h2⟩
theorem MdlAt.off{B B':Nat}{w w':World}{mb:Nat}{m:Mdl}{S:Nat->Prop}(h:MdlAt B w mb m)(ho:Off S w w')(h1:¬S mb)(h2:∀b,S b->¬B<=b)(hB:B'<=B):MdlAt B' w' mb m:=by
 obtain⟨au,nu,du,av,nv,dv,ai,ni,di,af,nf,df,ao,no,do_,aw,nw,dw,ab,nb,db,e1,e2⟩:=h;exact⟨au,nu,du,av,nv,dv,ai,ni,di,af,nf,df,ao,no,do_,aw,nw,dw,ab,nb,db,ho.heap h1 e1,kO.wide (kO.off e2 ho (fun b hb hn=>h2 b hb hn)) (fun b hb _=>Nat.le_trans hB hb)⟩
theorem set9_heap{w:World}{b:Nat}{z0 z1 z2 z3 z4 z5 z6 z7 z8 x0 x1 x2 x3 x4 x5 x6 x7 x8:Value}{t:TypeId}(h:w.heap[b]? =some (.cells #[z0,z1,z2,z3,z4,z5,z6,z7,z8] t)):(set9 w b x0 x1 x2 x3 x4 x5 x6 x7 x8).heap[b]? =some (.cells #[x0,x1,x2,x3,x4,x5,x6,x7,x8] t):=by
 unfold set9;have e0:(w.setCell ⟨b,0,none⟩ x0).heap[b]? =some (.cells #[x0,z1,z2,z3,z4,z5,z6,z7,z8] t):=by rw[aU h];rfl
 have e1:((w.setCell ⟨b,0,none⟩ x0).setCell ⟨b,1,none⟩ x1).heap[b]? =some (.cells #[x0,x1,z2,z3,z4,z5,z6,z7,z8] t):=by rw[aU e0];rfl
 have e2:(((w.setCell ⟨b,0,none⟩ x0).setCell ⟨b,1,none⟩ x1).setCell ⟨b,2,none⟩ x2).heap[b]? =some (.cells #[x0,x1,x2,z3,z4,z5,z6,z7,z8] t):=by rw[aU e1];rfl
 have e3:((((w.setCell ⟨b,0,none⟩ x0).setCell ⟨b,1,none⟩ x1).setCell ⟨b,2,none⟩ x2).setCell ⟨b,3,none⟩ x3).heap[b]? =some (.cells #[x0,x1,x2,x3,z4,z5,z6,z7,z8] t):=by rw[aU e2];rfl
 have e4:(((((w.setCell ⟨b,0,none⟩ x0).setCell ⟨b,1,none⟩ x1).setCell ⟨b,2,none⟩ x2).setCell ⟨b,3,none⟩ x3).setCell ⟨b,4,none⟩ x4).heap[b]? =some (.cells #[x0,x1,x2,x3,x4,z5,z6,z7,z8] t):=by rw[aU e3];rfl
 have e5:((((((w.setCell ⟨b,0,none⟩ x0).setCell ⟨b,1,none⟩ x1).setCell ⟨b,2,none⟩ x2).setCell ⟨b,3,none⟩ x3).setCell ⟨b,4,none⟩ x4).setCell ⟨b,5,none⟩ x5).heap[b]? =some (.cells #[x0,x1,x2,x3,x4,x5,z6,z7,z8] t):=by rw[aU e4];rfl
 have e6:(((((((w.setCell ⟨b,0,none⟩ x0).setCell ⟨b,1,none⟩ x1).setCell ⟨b,2,none⟩ x2).setCell ⟨b,3,none⟩ x3).setCell ⟨b,4,none⟩ x4).setCell ⟨b,5,none⟩ x5).setCell ⟨b,6,none⟩ x6).heap[b]? =some (.cells #[x0,x1,x2,x3,x4,x5,x6,z7,z8] t):=by rw[aU e5];rfl
 have e7:((((((((w.setCell ⟨b,0,none⟩ x0).setCell ⟨b,1,none⟩ x1).setCell ⟨b,2,none⟩ x2).setCell ⟨b,3,none⟩ x3).setCell ⟨b,4,none⟩ x4).setCell ⟨b,5,none⟩ x5).setCell ⟨b,6,none⟩ x6).setCell ⟨b,7,none⟩ x7).heap[b]? =some (.cells #[x0,x1,x2,x3,x4,x5,x6,x7,z8] t):=by rw[aU e6];rfl
 have e8:(((((((((w.setCell ⟨b,0,none⟩ x0).setCell ⟨b,1,none⟩ x1).setCell ⟨b,2,none⟩ x2).setCell ⟨b,3,none⟩ x3).setCell ⟨b,4,none⟩ x4).setCell ⟨b,5,none⟩ x5).setCell ⟨b,6,none⟩ x6).setCell ⟨b,7,none⟩ x7).setCell ⟨b,8,none⟩ x8).heap[b]? =some (.cells #[x0,x1,x2,x3,x4,x5,x6,x7,x8] t):=by rw[aU e7];rfl
 exact e8
theorem parse1_any(p:Prs)(w:World)(pv mb:Nat)(h:RunAt p w pv mb):Calls Tryz.prog 43 #[.pointer (some ⟨pv,0,none⟩),.pointer (some ⟨mb,0,none⟩)] w
  (Ran (fun k=>k=p.pb\/k=mb) w (fD p.l) fun m _ e w'=>e=.returned (.tuple #[])/\MdlAt w.heap.size w' mb m):=by
 obtain⟨v0,v1⟩:=bx h.hpv 0 (u:=.pointer (some ⟨p.pb,0,none⟩)) rfl;have HM:=zh (module_any p w h.at_);have HB:=zh h.hmb;have hmb:=(Array.getElem?_eq_some_iff.1 h.hmb).1;have pQ:=h.ne.1;clear h;go_enter Tryz.func43,Tryz.ntmps43;go_wp2_with(go_at_call 44;refine HM.out.mono ?_;rintro e w2 (⟨x,hx,rfl,ho⟩|⟨m,j,hx,⟨au,nu,du,av,nv,dv,ai,ni,di,af,nf,df,ao,no,do_,aw,nw,dw,ab,nb,db,rfl,LH,ha⟩,ho⟩)<;>have pZ:=zh (ho.heap pQ HB.out)<;>obtain⟨⟨c0,c1,c2,c3,c4,c5,c6,c7,c8⟩,f0,f1,f2,f3,f4,f5,f6,f7,f8⟩:=bx9 pZ.out)
 ·exact⟨rfl,Ran.bad' hx (ho.mono fun _ h=>.inl h)⟩
 have pU:=oL w2 mb (.string m.name) (.slice au nu du) (.slice av nv dv) (.slice ai ni di) (.slice af nf df) (.bool m.moves) (.slice ao no do_) (.slice aw nw dw) (.slice ab nb db);have hh:=set9_heap (x0:=.string m.name) (x1:=.slice au nu du) (x2:=.slice av nv dv) (x3:=.slice ai ni di) (x4:=.slice af nf df) (x5:=.bool m.moves) (x6:=.slice ao no do_) (x7:=.slice aw nw dw) (x8:=.slice ab nb db) pZ.out;have he:=kO.off LH pU (fun b hb hn=>by have hb:b=mb:=hb;have hn:w.heap.size<=b:=hn;omega);unfold set9 at pU hh he;go_end0;exact Ran.good hx ⟨rfl,au,nu,du,av,nv,dv,ai,ni,di,af,nf,df,ao,no,do_,aw,nw,dw,ab,nb,db,hh,he⟩ ((ho.mono fun _ h=>.inl h).trans (pU.mono fun _ h=>.inr h))
def RunV(p:Prs)(w:World)(mb:Nat)(e:Ending)(w':World):Prop:=
 (∃x,fD p.l=.error x/\e=.returned (.tuple #[.int .i64 x.1,.int .i64 x.2])/\Off (fun k=>k=p.pb\/k=mb) w w')\/
 (∃m j,fD p.l=.ok (m,j)/\e=.returned (.tuple #[.int .i64 0,.int .i64 0])/\MdlAt w.heap.size w' mb m/\Off (fun k=>k=p.pb\/k=mb) w w')
theorem run_any(p:Prs)(w:World)(pv mb:Nat)(h:RunAt p w pv mb):Calls Tryz.prog 42 #[.pointer (some ⟨p.pb,0,none⟩),.func (.func 43) #[] #[.pointer (some ⟨pv,0,none⟩),.pointer (some ⟨mb,0,none⟩)]] w (RunV p w mb):=by
 have hmf:∀(fn:Fn)(first cap:Array Value)(w:World),(Instr.makeFunc fn first cap).run Tryz.prog w=.ok (.func fn first cap) w:=fun _ _ _ _=>rfl;have hz:(w.alloc (kJ 0)).heap.size=w.heap.size+1:=R2;have h2:=h.later (aA (aB w (kJ 0)) (aB (w.alloc (kJ 0)) (oT 0)));have HA:=zh (aC (aB (w.alloc (kJ 0)) (oT 0)) (bY w (kJ 0)));have NG:=bY (w.alloc (kJ 0)) (oT 0);rw[hz] at NG;have HB:=zh NG;have HO:=zh (Ba (S:=fun k=>k=p.pb\/k=mb) (aA (aB w (kJ 0)) (aB (w.alloc (kJ 0)) (oT 0))));have HP:=zh (parse1_any p _ pv mb h2);have tY:=h.at_.blt;have hmb:=(Array.getElem?_eq_some_iff.1 h.hmb).1;clear h2 NG h
 go_enter_defers Tryz.func42,Tryz.ntmps42
 go_wp2_with(go_at_call 43;refine HP.out.mono ?_;rintro e w2 (⟨x,hx,rfl,ho⟩|⟨m,j,hx,⟨rfl,hm⟩,ho⟩)<;>have A0:=zh (ho.heap (fun e=>R7) HA.out)<;>have pZ:=zh (ho.heap (fun e=>R7) HB.out)<;>obtain⟨a0,a1⟩:=bx A0.out 0 (u:=.int .i64 0) rfl<;>obtain⟨b0,b1⟩:=bx pZ.out 0 (u:=.int .i64 0) rfl)
 ·exact PX
 exact PP
def parseV(B:Nat)(r:Except (Int×Int) Mdl)(e:Ending)(w':World):Prop:=match r with
 | .error x=>e=.returned (.tuple #[.agg cP,.int .i64 x.1,.int .i64 x.2])
 | .ok m=>∃au nu du av nv dv ai ni di af nf df ao no do_ aw nw dw ab nb db,e=.returned (.tuple #[oBx14 m.name au nu du av nv dv ai ni di af nf df m.moves ao no do_ aw nw dw ab nb db,.int .i64 0,.int .i64 0])/\
   encM (bO B) w' m [.string m.name,.slice au nu du,.slice av nv dv,.slice ai ni di,.slice af nf df,.bool m.moves,.slice ao no do_,.slice aw nw dw,.slice ab nb db]
theorem parseL_lex{s:bA}{x:Int×Int}(h:lX s=.error x):eI s=.error x:=by unfold eI;rw[h]
theorem parseL_bad{s:bA}{l:List Tok}{x:Int×Int}(h:lX s=.ok l)(hm:fD l=.error x):eI s=.error x:=by unfold eI;rw[h];simp only[hm]
theorem parseL_ok{s:bA}{l:List Tok}{m:Mdl}{j:Nat}(h:lX s=.ok l)(hm:fD l=.ok (m,j)):eI s=.ok m:=by unfold eI;rw[h];simp only[hm]
theorem prs_made{s:bA}{l:List Tok}{b o c B pb:Nat}{w w':World}(ht:TokOk s l)(hs:s.size<=8000)(hc:l.length<=c/\c<=9223372036854775807)(hb:b<w.heap.size)
  (hr:∀i x,l[i]? =some x->∃cs,encTok (bO B) w x cs/\cs.length=4/\∀j u,cs[j]? =some u->w.cell? ⟨b,o+i*4+j,none⟩=some u) (zH:Below w.heap.size w w')
  (tY:w'.heap[pb]? =some (mF (some ⟨b,o,none⟩) l.length c 0)) (LF:w.heap.size<=pb) (hg:iF w') (CT:Lib.TabIs Tryz.prog w' "strings.asciiSpace" .u8 Lib.asciiSpaceTab) (h11:11<=w.heap.size):
  Prs.At ⟨l,b,o,c,pb⟩ w' 0:=by
 refine⟨tY,fun k t hk=>?_,by show b≠pb;omega,ht.pos,by have:=ht.len;show l.length<=8001;omega,hc,fun k t hk hn=>ht.last k t hk hn,hg,CT,fun k hk=>by show k≠pb;omega⟩;obtain⟨cs,⟨rfl,hz⟩,-,hj⟩:=hr k t hk;exact⟨⟨aD zH (hj 0 _ rfl),aD zH (hj 1 _ rfl),aD zH (hj 2 _ rfl),aD zH (hj 3 _ rfl)⟩,hz⟩
theorem jC{w w2 w':World}(h:Below w.heap.size w w2)(ho:Off (fun k=>w.heap.size<=k) w2 w'):Below w.heap.size w w':=
 ⟨ho.os.trans h.os,ho.tape.trans h.tape,ho.output.trans h.output,Nat.le_trans h.size ho.size,fun k hk=>(ho.block k (by have:=h.size;omega) (fun e=>by have e:w.heap.size<=k:=e;omega)).trans (h.block k hk)⟩
theorem aO.pos{α:Type}{k:Nat}{enc:(Nat->Prop)->World->α->List Value->Prop}{N:Nat->Prop}{w:World}{v:Value}{l:List α}(hk:0<k)(h:aO k enc N w v l)(hp:0<l.length):∃b o c,v=.slice (some ⟨b,o,none⟩) l.length c/\l.length<=c/\c<=9223372036854775807/\b<w.heap.size/\
  ∀i x,l[i]? =some x->∃cs,enc N w x cs/\cs.length=k/\∀j u,cs[j]? =some u->w.cell? ⟨b,o+i*k+j,none⟩=some u:=by
 rcases h.cases hk with⟨rfl,-⟩|⟨b,o,c,h1,h2,h3,h4,h5,h6,h7⟩
 ·simp at hp
 exact⟨b,o,c,h1,h3,h4,h5,h7⟩
theorem lexL_size{s:bA}{l:List Tok}(h:lX s=.ok l):s.size<=8000:=by
 unfold lX at h;split at h
 ·cases h
 omega
theorem parse_any(s:bA)(w:World)(hs:s.size<=140737488355328)(hg:iF w)(hsg:SignsAt w)(CT:Lib.TabIs Tryz.prog w "strings.asciiSpace" .u8 Lib.asciiSpaceTab):
  Calls Tryz.prog 11 #[.string s] w fun e w'=>parseV w.heap.size (eI s) e w'/\Below w.heap.size w w':=by
 have hmf:∀(fn:Fn)(first cap:Array Value)(w:World),(Instr.makeFunc fn first cap).run Tryz.prog w=.ok (.func fn first cap) w:=fun _ _ _ _=>rfl;have h11:=hg.big;have OV:=zh (aB w (.cells cP 30));have KQ:=zh (lex_any s (w.alloc (.cells cP 30)) hs (hsg.later OV.out));have HG:=zh (fun w'(hb:Below w.heap.size w w')=>hg.later hb);have qI:=zh (fun w'(hb:Below w.heap.size w w')=>spc_off CT hg.big (Ba (S:=fun _=>False) hb) (fun _ _ h=>h));have vS:(w.alloc (.cells cP 30)).heap.size=w.heap.size+1:=R2;clear hg hsg CT
 cases hl:lX s with
 |error x=>
  have qB:(x.2 != 0)=true:=by rw[bne_iff_ne];exact lexL_nz hl
  have HR:=zh (parseL_lex hl);rw[hl] at KQ;clear hl;go_enter Tryz.func11,Tryz.ntmps11;go_wp2_with(go_at_call 36;refine KQ.out.mono ?_;rintro e w2 ⟨he,pN⟩;obtain rfl:e=.returned (.tuple #[.slice none 0 0,.int .i64 x.1,.int .i64 x.2]):=he;obtain⟨⟨c0,c1,c2,c3,c4,c5,c6,c7,c8⟩,f0,f1,f2,f3,f4,f5,f6,f7,f8⟩:=bx9 (aC pN (bY w (.cells cP 30))));refine bodyPost_ret (v:=.tuple #[.agg cP,.int .i64 x.1,.int .i64 x.2]) (by simp[results,Tryz.results11,go_sem,c0,c1,c2,c3,c4,c5,c6,c7,c8]) rfl ⟨SY,?_⟩;have ho:=oL w2 w.heap.size (.string ⟨#[]⟩) (.slice none 0 0) (.slice none 0 0) (.slice none 0 0) (.slice none 0 0) (.bool false) (.slice none 0 0) (.slice none 0 0) (.slice none 0 0);unfold set9 at ho;exact jC (aA OV.out pN) (ho.mono fun k hk=>Nat.le_of_eq (Eq.symm hk))
 |ok l=>
  have hs8:=lexL_size hl;have HE:=zh (fun x hx=>parseL_bad (x:=x) hl hx);have HK:=zh (fun m j hx=>parseL_ok (m:=m) (j:=j) hl hx);rw[hl] at KQ;clear hl;go_enter Tryz.func11,Tryz.ntmps11;go_wp2_with(first|(go_at_call 42;refine(run_any ⟨l,b,o,c,w2.heap.size+1⟩ ((((w2.alloc (.cells cP 30)).alloc (mF (some ⟨b,o,none⟩) l.length c 0)).alloc (.cells #[.pointer (some ⟨w2.heap.size+1,0,none⟩)] 74))) (w2.heap.size+2) w2.heap.size NV.out).mono ?_;rintro e w6 (⟨x,hx,rfl,ho⟩|⟨m,j,hx,rfl,hm,ho⟩)<;>have I8:=zh (ho.heap (fun e=>Or.elim e (fun e=>by have e:w.heap.size=w2.heap.size+1:=e;omega) (fun e=>by have e:w.heap.size=w2.heap.size:=e;omega)) NW.out)<;>obtain⟨⟨r0,r1,r2,r3,r4,r5,r6,r7,r8⟩,g0,g1,g2,g3,g4,g5,g6,g7,g8⟩:=bx9 I8.out<;>first|(have qB:(x.2 != 0)=true:=by rw[bne_iff_ne];exact module_nz x hx)|(obtain⟨au,nu,du,av,nv,dv,ai,ni,di,af,nf,df,ao,no,do_,aw,nw,dw,ab,nb,db,uA,LH⟩:=hm;obtain⟨⟨d0,d1,d2,d3,d4,d5,d6,d7,d8⟩,e0,e1,e2,e3,e4,e5,e6,e7,e8⟩:=bx9 uA))|(go_at_call 36;refine KQ.out.mono ?_;rintro e w2 ⟨he,pN⟩;obtain⟨v,rfl,rQ,rK⟩:=he;obtain⟨b,o,c,rfl,CF,sI,hb,vB⟩:=rQ.pos R0 rK.pos;have rU:=pN.size;have B3:=aB w2 (.cells cP 30);have B4:=aB (w2.alloc (.cells cP 30)) (mF (some ⟨b,o,none⟩) l.length c 0);have B5:=aB ((w2.alloc (.cells cP 30)).alloc (mF (some ⟨b,o,none⟩) l.length c 0)) (.cells #[.pointer (some ⟨w2.heap.size+1,0,none⟩)] 74);have z3:(w2.alloc (.cells cP 30)).heap.size=w2.heap.size+1:=R2;have z4:((w2.alloc (.cells cP 30)).alloc (mF (some ⟨b,o,none⟩) l.length c 0)).heap.size=w2.heap.size+2:=R2;have EZ:=zh (aA B3 (aA B4 B5));have I1:=zh (aA (aA OV.out pN) EZ.out);have FG:=bY (w2.alloc (.cells cP 30)) (mF (some ⟨b,o,none⟩) l.length c 0);have ML:=bY ((w2.alloc (.cells cP 30)).alloc (mF (some ⟨b,o,none⟩) l.length c 0)) (.cells #[.pointer (some ⟨w2.heap.size+1,0,none⟩)] 74);rw[z3] at FG;rw[z4] at ML;have NV:Hid (RunAt ⟨l,b,o,c,w2.heap.size+1⟩ (((w2.alloc (.cells cP 30)).alloc (mF (some ⟨b,o,none⟩) l.length c 0)).alloc (.cells #[.pointer (some ⟨w2.heap.size+1,0,none⟩)] 74)) (w2.heap.size+2) w2.heap.size):=zh ⟨prs_made rK hs8 ⟨CF,sI⟩ hb vB EZ.out (aC B5 FG) RY (HG.out _ I1.out) (qI.out _ I1.out) RY,ML,aC (aA B4 B5) (bY w2 _),by show w2.heap.size≠w2.heap.size+1;omega,by show w2.heap.size+2≠w2.heap.size+1;omega,RY⟩;have NW:=zh (aC (aA pN EZ.out) (bY w (.cells cP 30)));clear FG ML B3 B4 B5 z3 z4 vB rQ rK))
  ·have I2:=jC I1.out (ho.mono (S':=fun k=>w.heap.size<=k) fun k hk=>Or.elim hk (fun e=>T8) (fun e=>UD));refine bodyPost_ret (v:=.tuple #[.agg cP,.int .i64 x.1,.int .i64 x.2]) VB rfl ⟨by rw[HE.out x hx];rfl,?_⟩;have tW:=oL w6 w.heap.size (.string ⟨#[]⟩) (.slice none 0 0) (.slice none 0 0) (.slice none 0 0) (.slice none 0 0) (.bool false) (.slice none 0 0) (.slice none 0 0) (.slice none 0 0);unfold set9 at tW;exact jC I2 (tW.mono fun k hk=>Nat.le_of_eq (Eq.symm hk))
  have I2:=jC I1.out (ho.mono (S':=fun k=>w.heap.size<=k) fun k hk=>Or.elim hk (fun e=>T8) (fun e=>UD));have yC:=EZ.out.size;have tW:=oL w6 w.heap.size (.string m.name) (.slice au nu du) (.slice av nv dv) (.slice ai ni di) (.slice af nf df) (.bool m.moves) (.slice ao no do_) (.slice aw nw dw) (.slice ab nb db);have GC:=kO.wide (N':=bO w.heap.size) (kO.off LH tW (fun b' vI hn=>VD)) (fun b' vI _=>by have hn:=Nat.le_trans yC vI;show w.heap.size<=b';omega);unfold set9 at tW GC;refine bodyPost_ret (v:=.tuple #[oBx14 m.name au nu du av nv dv ai ni di af nf df m.moves ao no do_ aw nw dw ab nb db,.int .i64 0,.int .i64 0]) VB rfl ⟨?_,jC I2 (tW.mono fun k hk=>Nat.le_of_eq (Eq.symm hk))⟩;rw[HK.out m j hx];exact⟨au,nu,du,av,nv,dv,ai,ni,di,af,nf,df,ao,no,do_,aw,nw,dw,ab,nb,db,rfl,GC⟩
structure RunXAt (p:Prs) (w:World) (pv mb:Nat):Prop where
 at_:p.At w 0
 hpv:w.heap[pv]? =some (.cells #[.pointer (some ⟨p.pb,0,none⟩)] 74)
 hmb:w.heap[mb]? =some (.cells bC 35)
 ne:mb≠p.pb/\pv≠p.pb/\pv≠mb
 nb:p.b≠mb/\11<=mb
theorem RunXAt.later{p:Prs}{w w':World}{pv mb:Nat}(h:RunXAt p w pv mb)(hb:Below w.heap.size w w'):RunXAt p w' pv mb:=⟨h.at_.later hb,aC hb h.hpv,aC hb h.hmb,h.ne,h.nb⟩
def XpIn(B:Nat)(w:World)(mb:Nat)(x:Xp):Prop:=∃op n s m a1 n1 c1 a2 n2 c2,
 w.heap[mb]? =some (aN op n s m a1 n1 c1 a2 n2 c2)/\bJ (bO B) w x [.int .i64 op,.int .i64 n,.string s,.string m,.slice a1 n1 c1,.slice a2 n2 c2]
theorem XpIn.later{B:Nat}{w w':World}{mb:Nat}{x:Xp}(h:XpIn B w mb x)(hb:Below w.heap.size w w'):XpIn B w' mb x:=by
 obtain⟨op,n,s,m,a1,n1,c1,a2,n2,c2,h1,h2⟩:=h;exact⟨op,n,s,m,a1,n1,c1,a2,n2,c2,aC hb h1,aH _ _ _ _ _ _ (aQ.later hb) h2⟩
theorem XpIn.off{B B':Nat}{w w':World}{mb:Nat}{x:Xp}{S:Nat->Prop}(h:XpIn B w mb x)(ho:Off S w w')(h1:¬S mb)(h2:∀b,S b->¬B<=b)(hB:B'<=B):XpIn B' w' mb x:=by
 obtain⟨op,n,s,m,a1,n1,c1,a2,n2,c2,e1,e2⟩:=h;exact⟨op,n,s,m,a1,n1,c1,a2,n2,c2,ho.heap h1 e1,aH.wide (aH.off e2 ho (fun b hb hn=>h2 b hb hn)) (fun b hb _=>Nat.le_trans hB hb)⟩
theorem set6_heap{w:World}{b:Nat}{z0 z1 z2 z3 z4 z5 x0 x1 x2 x3 x4 x5:Value}{t:TypeId}(h:w.heap[b]? =some (.cells #[z0,z1,z2,z3,z4,z5] t)):(gC w b x0 x1 x2 x3 x4 x5).heap[b]? =some (.cells #[x0,x1,x2,x3,x4,x5] t):=by
 unfold gC;rw[aU (aU (aU (aU (aU (aU h _) _) _) _) _) _];rfl
theorem parseXP_kind{l:List Tok}{x:Xp}{j:Nat}(h:jY l 0 0=.ok (x,j))(hk:(aI l j).kind≠3):fA l=gO l j 11:=by
 unfold fA;rw[h,bnd_ok,if_neg hk]
theorem parseXP_deep{l:List Tok}{x:Xp}{j:Nat}(h:jY l 0 0=.ok (x,j))(hk:(aI l j).kind=3)(hd:¬bE x<=12):fA l=gO l j 6:=by
 unfold fA;rw[h,bnd_ok,if_pos hk,if_neg hd]
theorem parseXP_ok{l:List Tok}{x:Xp}{j:Nat}(h:jY l 0 0=.ok (x,j))(hk:(aI l j).kind=3)(hd:bE x<=12):fA l=.ok (x,j):=by
 unfold fA;rw[h,bnd_ok,if_pos hk,if_pos hd]
theorem parsex1_any(p:Prs)(w:World)(pv mb:Nat)(h:RunXAt p w pv mb):Calls Tryz.prog 47 #[.pointer (some ⟨pv,0,none⟩),.pointer (some ⟨mb,0,none⟩)] w
  (Ran (fun k=>k=p.pb\/k=mb) w (fA p.l) fun x _ e w'=>e=.returned (.tuple #[])/\XpIn w.heap.size w' mb x):=by
 obtain⟨v0,v1⟩:=bx h.hpv 0 (u:=.pointer (some ⟨p.pb,0,none⟩)) rfl;have HM:=zh (exp_all p 0 0 w h.at_ RY);have HB:=zh h.hmb;have HV:=zh h.hpv;have hmb:=(Array.getElem?_eq_some_iff.1 h.hmb).1;have HNe:=zh h.ne;have HNb:=zh h.nb;have HLn:=zh h.at_.len;have F0:=tokF0;clear h;go_enter Tryz.func47,Tryz.ntmps47;go_wp2_with fail;go_at_call 48;refine HM.out.mono ?_;rintro e w2 (⟨x,hx,rfl,ho⟩|⟨xa,j,hx,⟨⟨op,n,s,m,a1,n1,c1,a2,n2,c2,rfl,LH⟩,ha,AU⟩,ho⟩)
 ·go_wp2_with fail;exact⟨rfl,Ran.bad' (by unfold fA;rw[hx];rfl) (ho.mono fun _ h=>.inl h)⟩
 have pZ:=zh (ho.heap HNe.out.1 HB.out);have HV2:=ho.heap HNe.out.2.1 HV.out;obtain⟨⟨c0,c1_,c2_,c3,c4,c5⟩,f0,f1,f2,f3,f4,f5⟩:=bx6 pZ.out;have pU:=kH w2 mb (.int .i64 op) (.int .i64 n) (.string s) (.string m) (.slice a1 n1 c1) (.slice a2 n2 c2);have hh:=set6_heap (x0:=.int .i64 op) (x1:=.int .i64 n) (x2:=.string s) (x3:=.string m) (x4:=.slice a1 n1 c1) (x5:=.slice a2 n2 c2) pZ.out;have he:=aH.off LH pU (fun b hb hn=>by have hb:b=mb:=hb;have hn:w.heap.size<=b:=hn;omega);have KX:=zh (ha.off pU (fun e=>HNe.out.1 (Eq.symm e)) (fun e=>HNb.out.1 e) (fun k hk e=>by have e:k=mb:=e;have:=HNb.out.2;omega));have hv3:=pU.heap (fun e=>HNe.out.2.2 e) HV2;have IE:=zh ((ho.mono (S':=fun k=>k=p.pb\/k=mb) fun _ h=>.inl h).trans (pU.mono fun _ h=>.inr h));have HHx:=zh hx;unfold gC at hh he KX hv3 IE;clear ho ha LH pU HV2 hx AU;go_wp2_with fail;generalize (((((w2.setCell ⟨mb,0,none⟩ (.int .i64 op)).setCell ⟨mb,1,none⟩ (.int .i64 n)).setCell ⟨mb,2,none⟩ (.string s)).setCell ⟨mb,3,none⟩ (.string m)).setCell ⟨mb,4,none⟩ (.slice a1 n1 c1)).setCell ⟨mb,5,none⟩ (.slice a2 n2 c2)=w3 at *;have HE3:=zh he;have HH3:=zh hh;obtain⟨v3,-⟩:=bx hv3 0 (u:=.pointer (some ⟨p.pb,0,none⟩)) rfl;have HV3:=zh hv3;clear c0 c1_ c2_ c3 c4 c5 f0 f1 f2 f3 f4 f5 he hh hv3 v0 v1;by_cases hk:(aI p.l j).kind=3
 ·have hkb:((aI p.l j).kind==3)=true:=by rw[hk];rfl
  have HK:=zh hk;clear hk;refine wp_region_held_drew (S:=fun W=>Below w3.heap.size w3 W) RZ (aF w3) fun hS=>?_;refine zt 0 (.pointer (some ⟨p.pb,0,none⟩)) rfl (fun W hW=>UO) ?_;refine zt 1 (.pointer (some ⟨p.pb,0,none⟩)) rfl (fun W hW=>UO) ?_;try simp only[zn]
  refine zr 2 rfl (fun K hK=>?_);try simp only[z1,z2,z3]
  go_simp;refine(cQ p _ j (KX.out.later (aF w3))).mono ?_;rintro e w4 ⟨rfl,JZ⟩;have qC:=aA (aF w3) JZ;refine hK.out _ _ qC (fun hS=>?_);clear hK K;try simp only[zn]
  generalize tJ:aI p.l j=t at *;refine zq 3 (.int .i64 t.kind) rfl ?_;refine zq 4 (.bool true) rfl ?_;try simp only[zn]
  refine zr 5 rfl (fun K hK=>?_);try simp only[z1,z2,z3]
  go_simp;refine(lP p _ 11).mono ?_;rintro e w5 ⟨rfl,rfl⟩;refine hK.out _ _ qC (fun hS=>?_);clear hK K;try simp only[zn]
  refine wpAnyH_done RZ ?_ _;have rS:=zh qC;have KW:=zh (KX.out.later qC);have D1:=zh (IE.out.trans (Ba (S:=fun k=>k=p.pb\/k=mb) qC));have HE4:=zh (aH _ _ _ _ _ _ (aQ.later qC) HE3.out);have IO:=zh (aC qC HH3.out);obtain⟨v5,-⟩:=bx (aC qC HV3.out) 0 (u:=.pointer (some ⟨p.pb,0,none⟩)) rfl;obtain⟨⟨y0,y1,y2,y3,y4,y5⟩,-⟩:=bx6 IO.out;have hdb:bE xa<=9000000000000000000:=by have h:=expAllP_depth HHx.out HLn.out;omega
  have JD:=zh (fun W(hb:Below w4.heap.size w4 W)=>depth_any _ xa _ op n s m _ _ W (Nat.le_refl _) hdb (aH _ _ _ _ _ _ (aQ.later hb) HE4.out));clear hS qC JZ v3;go_wp2_with fail;by_cases hd:bE xa<=12
  ·have HOk:Hid (fA p.l=.ok (xa,j)):=zh (parseXP_ok HHx.out (by rw[tJ];exact HK.out) hd);have hdd:(bE xa:Int)<=12:=RY;clear hd hdb;refine wp_region_held_drew (S:=fun W=>Below w4.heap.size w4 W) RZ (aF w4) fun hS=>?_;refine zt 0 (.pointer (some ⟨p.pb,0,none⟩)) rfl (fun W hW=>by have q0:=aD hW v5;go_simp) ?_;refine zt 1 (dW op n s m a1 n1 c1 a2 n2 c2) rfl (fun W hW=>TX) ?_;(try simp only[zn]);refine zr 2 rfl (fun K hK=>?_);(try simp only[z1,z2,z3]);go_simp;refine(JD.out _ (aF w4)).mono ?_;rintro e w6 ⟨rfl,M9⟩;have qZ:=aA (aF w4) M9;refine hK.out _ _ qZ (fun hS=>?_);clear hK K;(try simp only[zn]);generalize bE xa=dx at *;refine zq 3 (.bool true) rfl ?_;(try simp only[zn]);refine zr 4 rfl (fun K hK=>?_);(try simp only[z1,z2,z3]);go_simp;refine(lP p _ 6).mono ?_;rintro e w7 ⟨rfl,rfl⟩;refine hK.out _ _ qZ (fun hS=>?_);clear hK K;(try simp only[zn]);refine wpAnyH_done RZ ?_ _;go_wp2_with fail;go_end0;exact Ran.good HOk.out ⟨rfl,op,n,s,m,a1,n1,c1,a2,n2,c2,aC qZ IO.out,aH _ _ _ _ _ _ (aQ.later qZ) HE4.out⟩ (D1.out.trans (Ba qZ))
  have HNd:Hid (fA p.l=gO p.l j 6):=zh (parseXP_deep HHx.out (by rw[tJ];exact HK.out) hd);have hdd:¬(bE xa:Int)<=12:=RY;have hdd2:(12:Int)<(bE xa:Int):=RY;clear hd hdb;refine wp_region_held_drew (S:=fun W=>Below w4.heap.size w4 W) RZ (aF w4) fun hS=>?_;refine zt 0 (.pointer (some ⟨p.pb,0,none⟩)) rfl (fun W hW=>by have q0:=aD hW v5;go_simp) ?_;refine zt 1 (dW op n s m a1 n1 c1 a2 n2 c2) rfl (fun W hW=>TX) ?_;try simp only[zn]
  refine zr 2 rfl (fun K hK=>?_);try simp only[z1,z2,z3]
  go_simp;refine(JD.out _ (aF w4)).mono ?_;rintro e w6 ⟨rfl,M9⟩;have qZ:=aA (aF w4) M9;refine hK.out _ _ qZ (fun hS=>?_);clear hK K;try simp only[zn]
  generalize bE xa=dx at *;refine zq 3 (.bool false) rfl ?_;try simp only[zn]
  refine zr 4 rfl (fun K hK=>?_);try simp only[z1,z2,z3]
  go_simp;refine(mA p _ j 6 (KW.out.later qZ)).mono ?_;rintro e w7 ⟨rfl,rT⟩;go_wp2_with fail;exact⟨rfl,Ran.bad (by rw[HNd.out,gO,tJ]) ((D1.out.trans (Ba qZ)).trans (Ba rT))⟩
 have hkb:((aI p.l j).kind==3)=false:=by rw[beq_eq_false_iff_ne];exact hk
 have HNo:Hid (fA p.l=gO p.l j 11):=zh (parseXP_kind HHx.out hk);clear hk;refine wp_region_held_drew (S:=fun W=>Below w3.heap.size w3 W) RZ (aF w3) fun hS=>?_;refine zt 0 (.pointer (some ⟨p.pb,0,none⟩)) rfl (fun W hW=>UO) ?_;refine zt 1 (.pointer (some ⟨p.pb,0,none⟩)) rfl (fun W hW=>UO) ?_;try simp only[zn]
 refine zr 2 rfl (fun K hK=>?_);try simp only[z1,z2,z3]
 go_simp;refine(cQ p _ j (KX.out.later (aF w3))).mono ?_;rintro e w4 ⟨rfl,JZ⟩;have qC:=aA (aF w3) JZ;refine hK.out _ _ qC (fun hS=>?_);clear hK K;try simp only[zn]
 generalize tJ:aI p.l j=t at *;refine zq 3 (.int .i64 t.kind) rfl ?_;refine zq 4 (.bool false) rfl ?_;try simp only[zn]
 refine zr 5 rfl (fun K hK=>?_);try simp only[z1,z2,z3]
 go_simp;refine(mA p _ j 11 (KX.out.later qC)).mono ?_;rintro e w5 ⟨rfl,hb5⟩;go_wp2_with fail;exact⟨rfl,Ran.bad (by rw[HNo.out,gO,tJ]) ((IE.out.trans (Ba qC)).trans (Ba hb5))⟩
def RunXV(p:Prs)(w:World)(mb:Nat)(e:Ending)(w':World):Prop:=
 (∃x,fA p.l=.error x/\e=.returned (.tuple #[.int .i64 x.1,.int .i64 x.2])/\Off (fun k=>k=p.pb\/k=mb) w w')\/
 (∃m j,fA p.l=.ok (m,j)/\e=.returned (.tuple #[.int .i64 0,.int .i64 0])/\XpIn w.heap.size w' mb m/\Off (fun k=>k=p.pb\/k=mb) w w')
theorem runx_any(p:Prs)(w:World)(pv mb:Nat)(h:RunXAt p w pv mb):Calls Tryz.prog 42 #[.pointer (some ⟨p.pb,0,none⟩),.func (.func 47) #[] #[.pointer (some ⟨pv,0,none⟩),.pointer (some ⟨mb,0,none⟩)]] w (RunXV p w mb):=by
 have hmf:∀(fn:Fn)(first cap:Array Value)(w:World),(Instr.makeFunc fn first cap).run Tryz.prog w=.ok (.func fn first cap) w:=fun _ _ _ _=>rfl;have hz:(w.alloc (kJ 0)).heap.size=w.heap.size+1:=R2;have h2:=h.later (aA (aB w (kJ 0)) (aB (w.alloc (kJ 0)) (oT 0)));have HA:=zh (aC (aB (w.alloc (kJ 0)) (oT 0)) (bY w (kJ 0)));have NG:=bY (w.alloc (kJ 0)) (oT 0);rw[hz] at NG;have HB:=zh NG;have HO:=zh (Ba (S:=fun k=>k=p.pb\/k=mb) (aA (aB w (kJ 0)) (aB (w.alloc (kJ 0)) (oT 0))));have HP:=zh (parsex1_any p _ pv mb h2);have tY:=h.at_.blt;have hmb:=(Array.getElem?_eq_some_iff.1 h.hmb).1;clear h2 NG h
 go_enter_defers Tryz.func42,Tryz.ntmps42
 go_wp2_with(go_at_call 47;refine HP.out.mono ?_;rintro e w2 (⟨x,hx,rfl,ho⟩|⟨m,j,hx,⟨rfl,hm⟩,ho⟩)<;>have A0:=zh (ho.heap (fun e=>R7) HA.out)<;>have pZ:=zh (ho.heap (fun e=>R7) HB.out)<;>obtain⟨a0,a1⟩:=bx A0.out 0 (u:=.int .i64 0) rfl<;>obtain⟨b0,b1⟩:=bx pZ.out 0 (u:=.int .i64 0) rfl)
 ·exact PX
 exact PP
def parseXV(B:Nat)(r:Except (Int×Int) Xp)(e:Ending)(w':World):Prop:=match r with
 | .error x=>e=.returned (.tuple #[.agg bC,.int .i64 x.1,.int .i64 x.2])
 | .ok x=>∃op n sx mx a1 n1 c1 a2 n2 c2,e=.returned (.tuple #[dW op n sx mx a1 n1 c1 a2 n2 c2,.int .i64 0,.int .i64 0])/\bJ (bO B) w' x [.int .i64 op,.int .i64 n,.string sx,.string mx,.slice a1 n1 c1,.slice a2 n2 c2]
theorem parseX_lex{s:bA}{x:Int×Int}(h:lX s=.error x):fN s=.error x:=by unfold fN;rw[h]
theorem parseX_bad{s:bA}{l:List Tok}{x:Int×Int}(h:lX s=.ok l)(hm:fA l=.error x):fN s=.error x:=by unfold fN;rw[h];simp only[hm]
theorem parseX_ok{s:bA}{l:List Tok}{m:Xp}{j:Nat}(h:lX s=.ok l)(hm:fA l=.ok (m,j)):fN s=.ok m:=by unfold fN;rw[h];simp only[hm]
theorem parseXP_nz{l:List Tok}:Nz (fA l):=by
 unfold fA;exact .bnd (exp_nz _ _ _) fun _ _=>.ite (.ite .ok (.stop R0)) (.stop R0)
theorem parsex_any(s:bA)(w:World)(hs:s.size<=140737488355328)(hg:iF w)(hsg:SignsAt w)(CT:Lib.TabIs Tryz.prog w "strings.asciiSpace" .u8 Lib.asciiSpaceTab):
  Calls Tryz.prog 13 #[.string s] w fun e w'=>parseXV w.heap.size (fN s) e w'/\Below w.heap.size w w':=by
 have hmf:∀(fn:Fn)(first cap:Array Value)(w:World),(Instr.makeFunc fn first cap).run Tryz.prog w=.ok (.func fn first cap) w:=fun _ _ _ _=>rfl;have h11:=hg.big;have OV:=zh (aB w (.cells bC 35));have KQ:=zh (lex_any s (w.alloc (.cells bC 35)) hs (hsg.later OV.out));have HG:=zh (fun w'(hb:Below w.heap.size w w')=>hg.later hb);have qI:=zh (fun w'(hb:Below w.heap.size w w')=>spc_off CT hg.big (Ba (S:=fun _=>False) hb) (fun _ _ h=>h));have vS:(w.alloc (.cells bC 35)).heap.size=w.heap.size+1:=R2;clear hg hsg CT
 cases hl:lX s with
 |error x=>
  have qB:(x.2 != 0)=true:=by rw[bne_iff_ne];exact lexL_nz hl
  have HR:=zh (parseX_lex hl);rw[hl] at KQ;clear hl;go_enter Tryz.func13,Tryz.ntmps13;go_wp2_with(go_at_call 36;refine KQ.out.mono ?_;rintro e w2 ⟨he,pN⟩;obtain rfl:e=.returned (.tuple #[.slice none 0 0,.int .i64 x.1,.int .i64 x.2]):=he;obtain⟨⟨c0,c1,c2,c3,c4,c5⟩,f0,f1,f2,f3,f4,f5⟩:=bx6 (aC pN (bY w (.cells bC 35))));refine bodyPost_ret (v:=.tuple #[.agg bC,.int .i64 x.1,.int .i64 x.2]) (by simp[results,Tryz.results13,go_sem,c0,c1,c2,c3,c4,c5]) rfl ⟨SY,?_⟩;have ho:=kH w2 w.heap.size (.int .i64 0) (.int .i64 0) (.string ⟨#[]⟩) (.string ⟨#[]⟩) (.slice none 0 0) (.slice none 0 0);unfold gC at ho;exact jC (aA OV.out pN) (ho.mono fun k hk=>Nat.le_of_eq (Eq.symm hk))
 |ok l=>
  have hs8:=lexL_size hl;have HE:=zh (fun x hx=>parseX_bad (x:=x) hl hx);have HK:=zh (fun m j hx=>parseX_ok (m:=m) (j:=j) hl hx);rw[hl] at KQ;clear hl;go_enter Tryz.func13,Tryz.ntmps13;go_wp2_with(first|(go_at_call 42;refine(runx_any ⟨l,b,o,c,w2.heap.size+1⟩ ((((w2.alloc (.cells bC 35)).alloc (mF (some ⟨b,o,none⟩) l.length c 0)).alloc (.cells #[.pointer (some ⟨w2.heap.size+1,0,none⟩)] 74))) (w2.heap.size+2) w2.heap.size NV.out).mono ?_;rintro e w6 (⟨x,hx,rfl,ho⟩|⟨m,j,hx,rfl,hm,ho⟩)<;>have I8:=zh (ho.heap (fun e=>Or.elim e (fun e=>by have e:w.heap.size=w2.heap.size+1:=e;omega) (fun e=>by have e:w.heap.size=w2.heap.size:=e;omega)) NW.out)<;>obtain⟨⟨r0,r1,r2,r3,r4,r5⟩,g0,g1,g2,g3,g4,g5⟩:=bx6 I8.out<;>first|(have qB:(x.2 != 0)=true:=by rw[bne_iff_ne];exact parseXP_nz x hx)|(obtain⟨op,n,sx,mx,a1,n1,c1,a2,n2,c2,uA,LH⟩:=hm;obtain⟨⟨d0,d1,d2,d3,d4,d5⟩,e0,e1,e2,e3,e4,e5⟩:=bx6 uA))|(go_at_call 36;refine KQ.out.mono ?_;rintro e w2 ⟨he,pN⟩;obtain⟨v,rfl,rQ,rK⟩:=he;obtain⟨b,o,c,rfl,CF,sI,hb,vB⟩:=rQ.pos R0 rK.pos;have rU:=pN.size;have B3:=aB w2 (.cells bC 35);have B4:=aB (w2.alloc (.cells bC 35)) (mF (some ⟨b,o,none⟩) l.length c 0);have B5:=aB ((w2.alloc (.cells bC 35)).alloc (mF (some ⟨b,o,none⟩) l.length c 0)) (.cells #[.pointer (some ⟨w2.heap.size+1,0,none⟩)] 74);have z3:(w2.alloc (.cells bC 35)).heap.size=w2.heap.size+1:=R2;have z4:((w2.alloc (.cells bC 35)).alloc (mF (some ⟨b,o,none⟩) l.length c 0)).heap.size=w2.heap.size+2:=R2;have EZ:=zh (aA B3 (aA B4 B5));have I1:=zh (aA (aA OV.out pN) EZ.out);have FG:=bY (w2.alloc (.cells bC 35)) (mF (some ⟨b,o,none⟩) l.length c 0);have ML:=bY ((w2.alloc (.cells bC 35)).alloc (mF (some ⟨b,o,none⟩) l.length c 0)) (.cells #[.pointer (some ⟨w2.heap.size+1,0,none⟩)] 74);rw[z3] at FG;rw[z4] at ML;have NV:Hid (RunXAt ⟨l,b,o,c,w2.heap.size+1⟩ (((w2.alloc (.cells bC 35)).alloc (mF (some ⟨b,o,none⟩) l.length c 0)).alloc (.cells #[.pointer (some ⟨w2.heap.size+1,0,none⟩)] 74)) (w2.heap.size+2) w2.heap.size):=zh ⟨prs_made rK hs8 ⟨CF,sI⟩ hb vB EZ.out (aC B5 FG) RY (HG.out _ I1.out) (qI.out _ I1.out) RY,ML,aC (aA B4 B5) (bY w2 _),⟨by show w2.heap.size≠w2.heap.size+1;omega,by show w2.heap.size+2≠w2.heap.size+1;omega,RY⟩,⟨by show b≠w2.heap.size;omega,RY⟩⟩;have NW:=zh (aC (aA pN EZ.out) (bY w (.cells bC 35)));clear FG ML B3 B4 B5 z3 z4 vB rQ rK))
  ·have I2:=jC I1.out (ho.mono (S':=fun k=>w.heap.size<=k) fun k hk=>Or.elim hk (fun e=>T8) (fun e=>UD));refine bodyPost_ret (v:=.tuple #[.agg bC,.int .i64 x.1,.int .i64 x.2]) (by simp[results,Tryz.results13,go_sem,r0,r1,r2,r3,r4,r5]) rfl ⟨by rw[HE.out x hx];rfl,?_⟩;have tW:=kH w6 w.heap.size (.int .i64 0) (.int .i64 0) (.string ⟨#[]⟩) (.string ⟨#[]⟩) (.slice none 0 0) (.slice none 0 0);unfold gC at tW;exact jC I2 (tW.mono fun k hk=>Nat.le_of_eq (Eq.symm hk))
  have I2:=jC I1.out (ho.mono (S':=fun k=>w.heap.size<=k) fun k hk=>Or.elim hk (fun e=>T8) (fun e=>UD));have yC:=EZ.out.size;have tW:=kH w6 w.heap.size (.int .i64 op) (.int .i64 n) (.string sx) (.string mx) (.slice a1 n1 c1) (.slice a2 n2 c2);have GC:=aH.wide (N':=bO w.heap.size) (aH.off LH tW (fun b' vI hn=>VD)) (fun b' vI _=>by have hn:=Nat.le_trans yC vI;show w.heap.size<=b';omega);unfold gC at tW GC;refine bodyPost_ret (v:=.tuple #[dW op n sx mx a1 n1 c1 a2 n2 c2,.int .i64 0,.int .i64 0]) (by simp[results,Tryz.results13,go_sem,r0,r1,r2,r3,r4,r5]) rfl ⟨?_,jC I2 (tW.mono fun k hk=>Nat.le_of_eq (Eq.symm hk))⟩;rw[HK.out m j hx];exact⟨op,n,sx,mx,a1,n1,c1,a2,n2,c2,rfl,GC⟩
structure OpA (wb:Nat) (v:Value) (x:Xp) (b o:Nat) (op n:Int) (s m:bA) (a1:Option Addr) (n1 c1:Nat) (a2:Option Addr) (n2 c2:Nat) (w:World):Prop where
 enc:bJ (dL wb v) w x [.int .i64 op,.int .i64 n,.string s,.string m,.slice a1 n1 c1,.slice a2 n2 c2]
 off:dL wb v b
 p:w.cell? ⟨b,o,none⟩=some (.int .i64 op)/\w.cell? ⟨b,o+1,none⟩=some (.int .i64 n)/\w.cell? ⟨b,o+2,none⟩=some (.string s)/\w.cell? ⟨b,o+3,none⟩=some (.string m)/\w.cell? ⟨b,o+4,none⟩=some (.slice a1 n1 c1)/\w.cell? ⟨b,o+5,none⟩=some (.slice a2 n2 c2)
theorem OpA.ext{wb:Nat}{v v':Value}{x:Xp}{b o:Nat}{op n:Int}{s m:bA}{a1:Option Addr}{n1 c1:Nat}{a2:Option Addr}{n2 c2:Nat}{w w':World}(h:OpA wb v x b o op n s m a1 n1 c1 a2 n2 c2 w)(hx:Ext wb v w v' w'):OpA wb v' x b o op n s m a1 n1 c1 a2 n2 c2 w':=by
 obtain⟨h1,h2,p0,p1,p2,p3,p4,p5⟩:=h;have hn:¬inC wb v b:=fun e=>e.elim h2.1 h2.2;exact⟨lZ h1 hx,(hx.moves b h2 (jK p0)).1,hx.off.cell hn p0,hx.off.cell hn p1,hx.off.cell hn p2,hx.off.cell hn p3,hx.off.cell hn p4,hx.off.cell hn p5⟩
theorem op_of{wb:Nat}{v:Value}{args:List Xp}{a:Option Addr}{w:World}{i:Nat}{x:Xp}(sY:∀i x,args[i]? =some x->∃b o,a=some ⟨b,o,none⟩/\dL wb v b/\∃cs,bJ (dL wb v) w x cs/\cs.length=6/\∀j u,cs[j]? =some u->w.cell? ⟨b,o+i*6+j,none⟩=some u)(hx:args[i]? =some x):
  ∃b o,a=some ⟨b,o,none⟩/\∃op n s m a1 n1 c1 a2 n2 c2,OpA wb v x b (o+i*6) op n s m a1 n1 c1 a2 n2 c2 w:=by
 obtain⟨b,o,ha,hb,cs,he,-,hj⟩:=sY i x hx
 cases x with
 |mk op n s m ns ys=>
  have tZ:=he;rw[aW] at he;obtain⟨v1,v2,rfl,-,-,h1,h2⟩:=he;obtain⟨a1,c1,rfl,-⟩:=h1.at;obtain⟨a2,c2,rfl,-⟩:=h2.at;exact⟨b,o,ha,op,n,s,m,a1,_,c1,a2,_,c2,tZ,hb,by simpa using hj 0 _ rfl,hj 1 _ rfl,hj 2 _ rfl,hj 3 _ rfl,hj 4 _ rfl,hj 5 _ rfl⟩
theorem op_of0{wb:Nat}{v:Value}{args:List Xp}{a:Option Addr}{w:World}{x:Xp}(sY:∀i x,args[i]? =some x->∃b o,a=some ⟨b,o,none⟩/\dL wb v b/\∃cs,bJ (dL wb v) w x cs/\cs.length=6/\∀j u,cs[j]? =some u->w.cell? ⟨b,o+i*6+j,none⟩=some u)(hx:args[0]? =some x):
  ∃b o,a=some ⟨b,o,none⟩/\∃op n s m a1 n1 c1 a2 n2 c2,OpA wb v x b o op n s m a1 n1 c1 a2 n2 c2 w:=by
 have h:=op_of sY hx;simpa using h
theorem op_of1{wb:Nat}{v:Value}{args:List Xp}{a:Option Addr}{w:World}{x:Xp}(sY:∀i x,args[i]? =some x->∃b o,a=some ⟨b,o,none⟩/\dL wb v b/\∃cs,bJ (dL wb v) w x cs/\cs.length=6/\∀j u,cs[j]? =some u->w.cell? ⟨b,o+i*6+j,none⟩=some u)(hx:args[1]? =some x):
  ∃b o,a=some ⟨b,o,none⟩/\∃op n s m a1 n1 c1 a2 n2 c2,OpA wb v x b (o+6) op n s m a1 n1 c1 a2 n2 c2 w:=by
 have h:=op_of sY hx;simpa using h
theorem op_of2{wb:Nat}{v:Value}{args:List Xp}{a:Option Addr}{w:World}{x:Xp}(sY:∀i x,args[i]? =some x->∃b o,a=some ⟨b,o,none⟩/\dL wb v b/\∃cs,bJ (dL wb v) w x cs/\cs.length=6/\∀j u,cs[j]? =some u->w.cell? ⟨b,o+i*6+j,none⟩=some u)(hx:args[2]? =some x):
  ∃b o,a=some ⟨b,o,none⟩/\∃op n s m a1 n1 c1 a2 n2 c2,OpA wb v x b (o+12) op n s m a1 n1 c1 a2 n2 c2 w:=by
 have h:=op_of sY hx;simpa using h
def pK(d:Nat):Prop:=∀(x:Xp)(form:Nat)(fi:Int)(B wb:Nat)(st:WSt)(v:Value)(op n:Int)(s m:bA)(vn va:Value)(w:World),
 aJ d x=true->form<=8->fi=(form:Int)->WrS B wb st v w->dO st (aX x form)->bJ (dL wb v) w x [.int .i64 op,.int .i64 n,.string s,.string m,vn,va]->
 Calls Tryz.prog 70 #[.pointer (some ⟨wb,0,none⟩),nE op n s m vn va,.int .i64 fi] w (WrP B wb v w (.tuple #[]) (st.put (aX x form)))
theorem fbool_in(b:Bool)(w:World):Calls Tryz.prog 230 #[.bool b] w fun e w'=>e=.returned (.string (if b then cU else bU))/\w'=w:=by
 cases b
 all_goals
  go_enter Tryz.func230,Tryz.ntmps230;go_wp2_with fail;go_ret;exact⟨rfl,rfl⟩
theorem fbool_any(b:Bool)(w:World):Calls Tryz.prog 197 #[.bool b] w fun e w'=>e=.returned (.string (if b then cU else bU))/\w'=w:=by
 have HB:=zh (fbool_in b w);generalize (if b then cU else bU)=r at *;go_enter Tryz.func197,Tryz.ntmps197;go_wp2_with(go_at_call 230;refine HB.out.mono ?_;rintro e w2 ⟨rfl,rfl⟩);go_ret;exact⟨rfl,rfl⟩
theorem find_snoc{α:Type}{p:α->Bool}{l:List α}{k:Nat}{x:α}(hx:l[k]? =some x)(hn:(l.take k).find? p=none):(l.take (k+1)).find? p=if p x then some x else none:=by
 rw[List.take_add_one,hx,List.find?_append,hn];simp
theorem find_take{α:Type}{p:α->Bool}{l:List α}{k:Nat}{x:α}(hx:l[k]? =some x)(hn:(l.take k).find? p=none)(hp:p x=true):l.find? p=some x:=by
 have h:=find_snoc hx hn;rw[if_pos hp] at h;rw[<-List.take_append_drop (k+1) l,List.find?_append,h];rfl
def pF(op:Int):Nat:=if op=11\/op=12\/op=18 then 0 else if op=10 then 3 else if op=14 then 7 else 8
theorem formX_none{op:Int}(h:eJ.find? (fun o=>decide (o.2.1=op))=none):eL op=(pF op,noB):=by unfold eL;rw[h];rfl
theorem formX_some{op:Int}{t:bA}{fm:Nat}(h:eJ.find? (fun o=>decide (o.2.1=op))=some (t,op,fm)):eL op=(fm,t):=by unfold eL;rw[h]
theorem formOf_any(op n:Int)(s m:bA)(a1:Option Addr)(n1 c1:Nat)(a2:Option Addr)(n2 c2:Nat)(w:World):
  Calls Tryz.prog 151 #[dW op n s m a1 n1 c1 a2 n2 c2] w fun e w'=>e=.returned (.tuple #[.int .i64 ((eL op).1:Int),.string (eL op).2])/\Below w.heap.size w w':=by
 have qL:=zh (aB w (aN op n s m a1 n1 c1 a2 n2 c2));have HE1:=zh (bY w (aN op n s m a1 n1 c1 a2 n2 c2));go_enter Tryz.func151,Tryz.ntmps151;go_wp2_with(go_at_call 135;refine(operators_any _).mono ?_;rintro e w1 ⟨rfl,rfl⟩);have pZ:=zh (aB (w.alloc (aN op n s m a1 n1 c1 a2 n2 c2)) (.cells kZ.toArray 166));have L3:=bY (w.alloc (aN op n s m a1 n1 c1 a2 n2 c2)) (.cells kZ.toArray 166);rw[show(w.alloc (aN op n s m a1 n1 c1 a2 n2 c2)).heap.size=w.heap.size+1 by simp] at L3;have HO:=zh L3;clear L3;go_loopw [8] (fun sl wr=>∃k:Nat,k<=7/\sl=.int .i64 (k:Int)/\Hid (Below w.heap.size w wr)/\Hid (wr.heap[w.heap.size]? =some (aN op n s m a1 n1 c1 a2 n2 c2))/\Hid (wr.heap[w.heap.size+1]? =some (.cells kZ.toArray 166))/\Hid ((eJ.take k).find? (fun o=>decide (o.2.1=op))=none)) (fun sl _=>7-(intOf sl).toNat)
 case atStart=>exact⟨0,RY,rfl,zh (aA qL.out pZ.out),zh (aC pZ.out HE1.out),HO,zh rfl⟩
 case round=>
  obtain⟨k,hk7,rfl,HB,HX,HOp,HN⟩:=hrel;rename World=>wr
  obtain⟨⟨x0,x1,x2,x3,x4,x5⟩,-⟩:=bx6 HX.out;by_cases qA:k<7
  ·obtain⟨⟨t,wE,fm⟩,hk⟩:∃o,eJ[k]? =some o:=⟨_,List.getElem?_eq_getElem (show k<eJ.length from qA)⟩;obtain⟨hc0,CF,sI⟩:=opers_at hk;have c0:=(bx HOp.out (k*3) (by simpa using hc0)).1;have c1:=(bx HOp.out (k*3+1) (by simpa using CF)).1;have c2:=(bx HOp.out (k*3+2) (by simpa using sI)).1;clear hc0 CF sI;have C0:=aB wr (oU t wE (fm:Int));have KU:=zh C0;have sV:w.heap.size<wr.heap.size:=(Array.getElem?_eq_some_iff.1 HX.out).1;by_cases uT:wE=op
   ·subst uT;have HR:=zh (formX_some (find_take (p:=fun o=>decide (o.2.1=wE)) hk HN.out R2));clear HN hk;go_wp2_with fail;(go_region);go_wp2_with fail;go_ret2;exact⟨ret_val SY,(aA HB.out KU.out).drew⟩
   (have hop':(wE==op)=false:=by rw[beq_eq_false_iff_ne];exact uT);have HN2:=zh (find_snoc (p:=fun o=>decide (o.2.1=op)) hk HN.out);clear HN hk;go_wp2_with fail;go_roundw;(case rel=>exact⟨k+1,RY,SK,zh (aA HB.out KU.out),zh (aC KU.out HX.out),zh (aC KU.out HOp.out),zh (by rw[HN2.out];simp[uT])⟩);case measure=>simp[intOf];omega
  have hk:k=7:=RY;subst hk;have HR:=zh (formX_none (op:=op) HN.out);clear HN HOp;by_cases h0:op=11\/op=12\/op=18
  ·have HF:Hid (pF op=0):=zh (by unfold pF;rw[if_pos h0]);rcases h0 with rfl|rfl|rfl
   all_goals
    go_wp2_with fail;go_ret2;exact⟨ret_val (by rw[HR.out,HF.out];rfl),HB.out⟩
  have h11:(op==11)=false:=by rw[beq_eq_false_iff_ne];intro e;exact h0 (.inl e)
  have CG:(op==12)=false:=by rw[beq_eq_false_iff_ne];intro e;exact h0 (.inr (.inl e))
  have h18:(op==18)=false:=by rw[beq_eq_false_iff_ne];intro e;exact h0 (.inr (.inr e))
  have L6:Hid (pF op=if op=10 then 3 else if op=14 then 7 else 8):=zh (by unfold pF;rw[if_neg h0]);clear h0;by_cases BP:op=10
  ·subst BP;go_wp2_with fail;go_ret2;exact⟨ret_val (by rw[HR.out,L6.out];rfl),HB.out⟩
  have h10':(op==10)=false:=by rw[beq_eq_false_iff_ne];exact BP
  by_cases h14:op=14
  ·subst h14;go_wp2_with fail;go_ret2;exact⟨ret_val (by rw[HR.out,L6.out];rfl),HB.out⟩
  have h14':(op==14)=false:=by rw[beq_eq_false_iff_ne];exact h14
  have HF:Hid (pF op=8):=zh (by rw[L6.out,if_neg BP,if_neg h14]);clear L6 BP h14;go_wp2_with fail;go_ret2;exact⟨ret_val (by rw[HR.out,HF.out];rfl),HB.out⟩
end Go.Proofs.YtiionicikdnnpaaGreatDoor
