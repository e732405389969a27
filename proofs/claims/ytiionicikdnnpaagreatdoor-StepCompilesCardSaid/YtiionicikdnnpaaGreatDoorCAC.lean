/- Texts of this seat, joined. -/
import Derived.Test.YtiionicikdnnpaaGreatDoorSynMo
import Derived.Test.YtiionicikdnnpaaGreatDoorCZ
set_option maxHeartbeats 16000000
set_option maxRecDepth 100000
set_option linter.unusedVariables false
set_option linter.unusedSimpArgs false
namespace Go.Proofs.YtiionicikdnnpaaGreatDoor
open Go.RowKit
structure RunAt (p:Prs) (w:World) (pv mb:Nat):Prop where
 at_:p.At w 0
 hpv:w.heap[pv]? =some (.cells #[.pointer (some ⟨p.pb,0,none⟩)] 74)
 hmb:w.heap[mb]? =some (.cells eT 30)
 ne:mb≠p.pb/\pv≠p.pb/\pv≠mb
theorem RunAt.later{p:Prs}{w w':World}{pv mb:Nat}(h:RunAt p w pv mb)(hb:Below w.heap.size w w'):RunAt p w' pv mb:=⟨h.at_.later hb,aH hb h.hpv,aH hb h.hmb,h.ne⟩
def MdlAt(B:Nat)(w:World)(mb:Nat)(m:Mdl):Prop:=∃au nu du av nv dv ai ni di af nf df ao no do_ aw nw dw ab nb db,
 w.heap[mb]? =some (mQ m.name au nu du av nv dv ai ni di af nf df m.moves ao no do_ aw nw dw ab nb db)/\
 encM (bQ B) w m [.string m.name,.slice au nu du,.slice av nv dv,.slice ai ni di,.slice af nf df,.bool m.moves,.slice ao no do_,.slice aw nw dw,.slice ab nb db]
theorem MdlAt.later{B:Nat}{w w':World}{mb:Nat}{m:Mdl}(h:MdlAt B w mb m)(hb:Below w.heap.size w w'):MdlAt B w' mb m:=by
 obtain⟨au,nu,du,av,nv,dv,ai,ni,di,af,nf,df,ao,no,do_,aw,nw,dw,ab,nb,db,h1,h2⟩:=h;exact⟨au,nu,du,av,nv,dv,ai,ni,di,af,nf,df,ao,no,do_,aw,nw,dw,ab,nb,db,aH hb h1,mJ _ _ _ _ _ _ (bU.later hb) h2⟩
theorem MdlAt.off{B B':Nat}{w w':World}{mb:Nat}{m:Mdl}{S:Nat->Prop}(h:MdlAt B w mb m)(ho:Off S w w')(h1:¬S mb)(h2:∀b,S b->¬B<=b)(hB:B'<=B):MdlAt B' w' mb m:=by
 obtain⟨au,nu,du,av,nv,dv,ai,ni,di,af,nf,df,ao,no,do_,aw,nw,dw,ab,nb,db,e1,e2⟩:=h;exact⟨au,nu,du,av,nv,dv,ai,ni,di,af,nf,df,ao,no,do_,aw,nw,dw,ab,nb,db,ho.heap h1 e1,mJ.wide (mJ.off e2 ho (fun b hb hn=>h2 b hb hn)) (fun b hb _=>Nat.le_trans hB hb)⟩
theorem set9_heap{w:World}{b:Nat}{z0 z1 z2 z3 z4 z5 z6 z7 z8 x0 x1 x2 x3 x4 x5 x6 x7 x8:Value}{t:TypeId}(h:w.heap[b]? =some (.cells #[z0,z1,z2,z3,z4,z5,z6,z7,z8] t)):(set9 w b x0 x1 x2 x3 x4 x5 x6 x7 x8).heap[b]? =some (.cells #[x0,x1,x2,x3,x4,x5,x6,x7,x8] t):=by
 unfold set9;have e0:(w.setCell ⟨b,0,none⟩ x0).heap[b]? =some (.cells #[x0,z1,z2,z3,z4,z5,z6,z7,z8] t):=by rw[aT h];rfl
 have e1:((w.setCell ⟨b,0,none⟩ x0).setCell ⟨b,1,none⟩ x1).heap[b]? =some (.cells #[x0,x1,z2,z3,z4,z5,z6,z7,z8] t):=by rw[aT e0];rfl
 have e2:(((w.setCell ⟨b,0,none⟩ x0).setCell ⟨b,1,none⟩ x1).setCell ⟨b,2,none⟩ x2).heap[b]? =some (.cells #[x0,x1,x2,z3,z4,z5,z6,z7,z8] t):=by rw[aT e1];rfl
 have e3:((((w.setCell ⟨b,0,none⟩ x0).setCell ⟨b,1,none⟩ x1).setCell ⟨b,2,none⟩ x2).setCell ⟨b,3,none⟩ x3).heap[b]? =some (.cells #[x0,x1,x2,x3,z4,z5,z6,z7,z8] t):=by rw[aT e2];rfl
 have e4:(((((w.setCell ⟨b,0,none⟩ x0).setCell ⟨b,1,none⟩ x1).setCell ⟨b,2,none⟩ x2).setCell ⟨b,3,none⟩ x3).setCell ⟨b,4,none⟩ x4).heap[b]? =some (.cells #[x0,x1,x2,x3,x4,z5,z6,z7,z8] t):=by rw[aT e3];rfl
 have e5:((((((w.setCell ⟨b,0,none⟩ x0).setCell ⟨b,1,none⟩ x1).setCell ⟨b,2,none⟩ x2).setCell ⟨b,3,none⟩ x3).setCell ⟨b,4,none⟩ x4).setCell ⟨b,5,none⟩ x5).heap[b]? =some (.cells #[x0,x1,x2,x3,x4,x5,z6,z7,z8] t):=by rw[aT e4];rfl
 have e6:(((((((w.setCell ⟨b,0,none⟩ x0).setCell ⟨b,1,none⟩ x1).setCell ⟨b,2,none⟩ x2).setCell ⟨b,3,none⟩ x3).setCell ⟨b,4,none⟩ x4).setCell ⟨b,5,none⟩ x5).setCell ⟨b,6,none⟩ x6).heap[b]? =some (.cells #[x0,x1,x2,x3,x4,x5,x6,z7,z8] t):=by rw[aT e5];rfl
 have e7:((((((((w.setCell ⟨b,0,none⟩ x0).setCell ⟨b,1,none⟩ x1).setCell ⟨b,2,none⟩ x2).setCell ⟨b,3,none⟩ x3).setCell ⟨b,4,none⟩ x4).setCell ⟨b,5,none⟩ x5).setCell ⟨b,6,none⟩ x6).setCell ⟨b,7,none⟩ x7).heap[b]? =some (.cells #[x0,x1,x2,x3,x4,x5,x6,x7,z8] t):=by rw[aT e6];rfl
 have e8:(((((((((w.setCell ⟨b,0,none⟩ x0).setCell ⟨b,1,none⟩ x1).setCell ⟨b,2,none⟩ x2).setCell ⟨b,3,none⟩ x3).setCell ⟨b,4,none⟩ x4).setCell ⟨b,5,none⟩ x5).setCell ⟨b,6,none⟩ x6).setCell ⟨b,7,none⟩ x7).setCell ⟨b,8,none⟩ x8).heap[b]? =some (.cells #[x0,x1,x2,x3,x4,x5,x6,x7,x8] t):=by rw[aT e7];rfl
 exact e8
theorem parse1_any(p:Prs)(w:World)(pv mb:Nat)(h:RunAt p w pv mb):Calls Tryz.prog 43 #[.pointer (some ⟨pv,0,none⟩),.pointer (some ⟨mb,0,none⟩)] w
  (Ran (fun k=>k=p.pb\/k=mb) w (gD p.l) fun m _ e w'=>e=.returned (.tuple #[])/\MdlAt w.heap.size w' mb m):=by
 obtain⟨v0,v1⟩:=bx h.hpv 0 (u:=.pointer (some ⟨p.pb,0,none⟩)) rfl;have HM:=zh (module_any p w h.at_);have HB:=zh h.hmb;have hmb:=(Array.getElem?_eq_some_iff.1 h.hmb).1;have rO:=h.ne.1;clear h;go_enter Tryz.func43,Tryz.ntmps43;go_wp2_with(go_at_call 44;refine HM.out.mono ?_;rintro e w2 (⟨x,hx,rfl,ho⟩|⟨m,j,hx,⟨au,nu,du,av,nv,dv,ai,ni,di,af,nf,df,ao,no,do_,aw,nw,dw,ab,nb,db,rfl,hem,ha⟩,ho⟩)<;>have rZ:=zh (ho.heap rO HB.out)<;>obtain⟨⟨c0,c1,c2,c3,c4,c5,c6,c7,c8⟩,f0,f1,f2,f3,f4,f5,f6,f7,f8⟩:=bx9 rZ.out)
 ·exact⟨rfl,Ran.bad' hx (ho.mono fun _ h=>.inl h)⟩
 have rS:=qP w2 mb (.string m.name) (.slice au nu du) (.slice av nv dv) (.slice ai ni di) (.slice af nf df) (.bool m.moves) (.slice ao no do_) (.slice aw nw dw) (.slice ab nb db);have hh:=set9_heap (x0:=.string m.name) (x1:=.slice au nu du) (x2:=.slice av nv dv) (x3:=.slice ai ni di) (x4:=.slice af nf df) (x5:=.bool m.moves) (x6:=.slice ao no do_) (x7:=.slice aw nw dw) (x8:=.slice ab nb db) rZ.out;have he:=mJ.off hem rS (fun b hb hn=>by have hb:b=mb:=hb;have hn:w.heap.size<=b:=hn;omega);unfold set9 at rS hh he;go_end0;exact Ran.good hx ⟨rfl,au,nu,du,av,nv,dv,ai,ni,di,af,nf,df,ao,no,do_,aw,nw,dw,ab,nb,db,hh,he⟩ ((ho.mono fun _ h=>.inl h).trans (rS.mono fun _ h=>.inr h))
def RunV(p:Prs)(w:World)(mb:Nat)(e:Ending)(w':World):Prop:=
 (∃x,gD p.l=.error x/\e=.returned (.tuple #[.int .i64 x.1,.int .i64 x.2])/\Off (fun k=>k=p.pb\/k=mb) w w')\/
 (∃m j,gD p.l=.ok (m,j)/\e=.returned (.tuple #[.int .i64 0,.int .i64 0])/\MdlAt w.heap.size w' mb m/\Off (fun k=>k=p.pb\/k=mb) w w')
theorem run_any(p:Prs)(w:World)(pv mb:Nat)(h:RunAt p w pv mb):Calls Tryz.prog 42 #[.pointer (some ⟨p.pb,0,none⟩),.func (.func 43) #[] #[.pointer (some ⟨pv,0,none⟩),.pointer (some ⟨mb,0,none⟩)]] w (RunV p w mb):=by
 have hmf:∀(fn:Fn)(first cap:Array Value)(w:World),(Instr.makeFunc fn first cap).run Tryz.prog w=.ok (.func fn first cap) w:=fun _ _ _ _=>rfl;have hz:(w.alloc (kD 0)).heap.size=w.heap.size+1:=YR;have h2:=h.later (aC (aA w (kD 0)) (aA (w.alloc (kD 0)) (oBx27 0)));have HA:=zh (aH (aA (w.alloc (kD 0)) (oBx27 0)) (bY w (kD 0)));have T3:=bY (w.alloc (kD 0)) (oBx27 0);rw[hz] at T3;have HB:=zh T3;have HO:=zh (Ba (S:=fun k=>k=p.pb\/k=mb) (aC (aA w (kD 0)) (aA (w.alloc (kD 0)) (oBx27 0))));have HP:=zh (parse1_any p _ pv mb h2);have wQ:=h.at_.blt;have hmb:=(Array.getElem?_eq_some_iff.1 h.hmb).1;clear h2 T3 h
 go_enter_defers Tryz.func42,Tryz.ntmps42
 go_wp2_with(go_at_call 43;refine HP.out.mono ?_;rintro e w2 (⟨x,hx,rfl,ho⟩|⟨m,j,hx,⟨rfl,hm⟩,ho⟩)<;>have CQ:=zh (ho.heap (fun e=>Y2) HA.out)<;>have rZ:=zh (ho.heap (fun e=>Y2) HB.out)<;>obtain⟨a0,a1⟩:=bx CQ.out 0 (u:=.int .i64 0) rfl<;>obtain⟨b0,b1⟩:=bx rZ.out 0 (u:=.int .i64 0) rfl)
 ·clear a0 a1 b0 b1;refine leaves_cons (f:=109) (args:=#[.pointer (some ⟨w.heap.size,0,none⟩),.pointer (some ⟨w.heap.size+1,0,none⟩)]) YR (by simp[go_sem]) ?_;refine(catch_fault w.heap.size (w.heap.size+1) x [] w2 CQ.out rZ.out).mono ?_;rintro e u' w4 ⟨rfl,rfl,rY,h1,h3⟩;obtain⟨a0,a1⟩:=bx h1 0 (u:=.int .i64 x.1) rfl;obtain⟨b0,b1⟩:=bx h3 0 (u:=.int .i64 x.2) rfl;simp[Leaves,settle,results,Tryz.results42,go_sem,a0,b0];exact .inl ⟨x,hx,rfl,Off.fresh (((HO.out.trans ho).or w.heap.size).trans (rY.mono fun k hk=>.inr (by rcases hk with e|e<;>omega))) (Nat.le_refl _)⟩
 refine leaves_cons (f:=109) (args:=#[.pointer (some ⟨w.heap.size,0,none⟩),.pointer (some ⟨w.heap.size+1,0,none⟩)]) YR (by simp[go_sem]) ?_;refine(catch_idle w.heap.size (w.heap.size+1) _).mono ?_;rintro e u' w4 ⟨rfl,rfl,rfl⟩;simp[Leaves,settle,results,Tryz.results42,go_sem,a0,b0];have oz:Off (fun k=>k=w.heap.size\/k=w.heap.size+1) w2 ((w2.setCell ⟨w.heap.size,0,none⟩ (.int .i64 0)).setCell ⟨w.heap.size+1,0,none⟩ (.int .i64 0)):=(Off.setCell (S:=fun k=>k=w.heap.size\/k=w.heap.size+1) w2 (.inl rfl)).trans (Off.setCell (S:=fun k=>k=w.heap.size\/k=w.heap.size+1) _ (.inr rfl));have sY:((w.alloc (kD 0)).alloc (oBx27 0)).heap.size=w.heap.size+2:=YR;exact .inr ⟨m,j,hx,rfl,hm.off oz (by rintro(e|e)<;>omega) (fun b hb hn=>by rw[sY] at hn;rcases hb with e|e<;>omega) (by rw[sY];omega),Off.fresh (((HO.out.trans ho).or w.heap.size).trans (oz.mono fun k hk=>.inr (by rcases hk with e|e<;>omega))) (Nat.le_refl _)⟩
def parseV(B:Nat)(r:Except (Int×Int) Mdl)(e:Ending)(w':World):Prop:=match r with
 | .error x=>e=.returned (.tuple #[.agg eT,.int .i64 x.1,.int .i64 x.2])
 | .ok m=>∃au nu du av nv dv ai ni di af nf df ao no do_ aw nw dw ab nb db,e=.returned (.tuple #[oBx19 m.name au nu du av nv dv ai ni di af nf df m.moves ao no do_ aw nw dw ab nb db,.int .i64 0,.int .i64 0])/\
   encM (bQ B) w' m [.string m.name,.slice au nu du,.slice av nv dv,.slice ai ni di,.slice af nf df,.bool m.moves,.slice ao no do_,.slice aw nw dw,.slice ab nb db]
theorem parseL_lex{s:bA}{x:Int×Int}(h:lexL s=.error x):iG s=.error x:=by unfold iG;rw[h]
theorem parseL_bad{s:bA}{l:List Tok}{x:Int×Int}(h:lexL s=.ok l)(hm:gD l=.error x):iG s=.error x:=by unfold iG;rw[h];simp only[hm]
theorem parseL_ok{s:bA}{l:List Tok}{m:Mdl}{j:Nat}(h:lexL s=.ok l)(hm:gD l=.ok (m,j)):iG s=.ok m:=by unfold iG;rw[h];simp only[hm]
theorem prs_made{s:bA}{l:List Tok}{b o c B pb:Nat}{w w':World}(ht:TokOk s l)(hs:s.size<=8000)(hc:l.length<=c/\c<=9223372036854775807)(hb:b<w.heap.size)
  (hr:∀i x,l[i]? =some x->∃cs,encTok (bQ B) w x cs/\cs.length=4/\∀j u,cs[j]? =some u->w.cell? ⟨b,o+i*4+j,none⟩=some u) (vK:Below w.heap.size w w')
  (wQ:w'.heap[pb]? =some (oBx21 (some ⟨b,o,none⟩) l.length c 0)) (LI:w.heap.size<=pb) (hg:eJ w') (OE:Lib.TabIs Tryz.prog w' "strings.asciiSpace" .u8 Lib.asciiSpaceTab) (h11:11<=w.heap.size):
  Prs.At ⟨l,b,o,c,pb⟩ w' 0:=by
 refine⟨wQ,fun k t hk=>?_,by show b≠pb;omega,ht.pos,by have:=ht.len;show l.length<=8001;omega,hc,fun k t hk hn=>ht.last k t hk hn,hg,OE,fun k hk=>by show k≠pb;omega⟩;obtain⟨cs,⟨rfl,hz⟩,-,hj⟩:=hr k t hk;exact⟨⟨aD vK (hj 0 _ rfl),aD vK (hj 1 _ rfl),aD vK (hj 2 _ rfl),aD vK (hj 3 _ rfl)⟩,hz⟩
theorem rK{w w2 w':World}(h:Below w.heap.size w w2)(ho:Off (fun k=>w.heap.size<=k) w2 w'):Below w.heap.size w w':=
 ⟨ho.os.trans h.os,ho.tape.trans h.tape,ho.output.trans h.output,Nat.le_trans h.size ho.size,fun k hk=>(ho.block k (by have:=h.size;omega) (fun e=>by have e:w.heap.size<=k:=e;omega)).trans (h.block k hk)⟩
theorem aO.pos{α:Type}{k:Nat}{enc:(Nat->Prop)->World->α->List Value->Prop}{N:Nat->Prop}{w:World}{v:Value}{l:List α}(hk:0<k)(h:aO k enc N w v l)(hp:0<l.length):∃b o c,v=.slice (some ⟨b,o,none⟩) l.length c/\l.length<=c/\c<=9223372036854775807/\b<w.heap.size/\
  ∀i x,l[i]? =some x->∃cs,enc N w x cs/\cs.length=k/\∀j u,cs[j]? =some u->w.cell? ⟨b,o+i*k+j,none⟩=some u:=by
 rcases h.cases hk with⟨rfl,-⟩|⟨b,o,c,h1,h2,h3,h4,h5,h6,h7⟩
 ·simp at hp
 exact⟨b,o,c,h1,h3,h4,h5,h7⟩
theorem lexL_size{s:bA}{l:List Tok}(h:lexL s=.ok l):s.size<=8000:=by
 unfold lexL at h;split at h
 ·cases h
 omega
theorem parse_any(s:bA)(w:World)(hs:s.size<=140737488355328)(hg:eJ w)(hsg:SignsAt w)(OE:Lib.TabIs Tryz.prog w "strings.asciiSpace" .u8 Lib.asciiSpaceTab):
  Calls Tryz.prog 11 #[.string s] w fun e w'=>parseV w.heap.size (iG s) e w'/\Below w.heap.size w w':=by
 have hmf:∀(fn:Fn)(first cap:Array Value)(w:World),(Instr.makeFunc fn first cap).run Tryz.prog w=.ok (.func fn first cap) w:=fun _ _ _ _=>rfl;have h11:=hg.big;have IO:=zh (aA w (.cells eT 30));have HLx:=zh (lex_any s (w.alloc (.cells eT 30)) hs (hsg.later IO.out));have HG:=zh (fun w'(hb:Below w.heap.size w w')=>hg.later hb);have sA:=zh (fun w'(hb:Below w.heap.size w w')=>spc_off OE hg.big (Ba (S:=fun _=>False) hb) (fun _ _ h=>h));have xD:(w.alloc (.cells eT 30)).heap.size=w.heap.size+1:=YR;clear hg hsg OE
 cases hl:lexL s with
 |error x=>
  have rV:(x.2 != 0)=true:=by rw[bne_iff_ne];exact lexL_nz hl
  have HR:=zh (parseL_lex hl);rw[hl] at HLx;clear hl;go_enter Tryz.func11,Tryz.ntmps11;go_wp2_with(go_at_call 36;refine HLx.out.mono ?_;rintro e w2 ⟨he,rQ⟩;obtain rfl:e=.returned (.tuple #[.slice none 0 0,.int .i64 x.1,.int .i64 x.2]):=he;obtain⟨⟨c0,c1,c2,c3,c4,c5,c6,c7,c8⟩,f0,f1,f2,f3,f4,f5,f6,f7,f8⟩:=bx9 (aH rQ (bY w (.cells eT 30))));refine bodyPost_ret (v:=.tuple #[.agg eT,.int .i64 x.1,.int .i64 x.2]) (by simp[results,Tryz.results11,go_sem,c0,c1,c2,c3,c4,c5,c6,c7,c8]) rfl ⟨ZT,?_⟩;have ho:=qP w2 w.heap.size (.string ⟨#[]⟩) (.slice none 0 0) (.slice none 0 0) (.slice none 0 0) (.slice none 0 0) (.bool false) (.slice none 0 0) (.slice none 0 0) (.slice none 0 0);unfold set9 at ho;exact rK (aC IO.out rQ) (ho.mono fun k hk=>Nat.le_of_eq (Eq.symm hk))
 |ok l=>
  have hs8:=lexL_size hl;have HE:=zh (fun x hx=>parseL_bad (x:=x) hl hx);have HK:=zh (fun m j hx=>parseL_ok (m:=m) (j:=j) hl hx);rw[hl] at HLx;clear hl;go_enter Tryz.func11,Tryz.ntmps11;go_wp2_with(first|(go_at_call 42;refine(run_any ⟨l,b,o,c,w2.heap.size+1⟩ ((((w2.alloc (.cells eT 30)).alloc (oBx21 (some ⟨b,o,none⟩) l.length c 0)).alloc (.cells #[.pointer (some ⟨w2.heap.size+1,0,none⟩)] 74))) (w2.heap.size+2) w2.heap.size HRun.out).mono ?_;rintro e w6 (⟨x,hx,rfl,ho⟩|⟨m,j,hx,rfl,hm,ho⟩)<;>have J7:=zh (ho.heap (fun e=>Or.elim e (fun e=>by have e:w.heap.size=w2.heap.size+1:=e;omega) (fun e=>by have e:w.heap.size=w2.heap.size:=e;omega)) HRes.out)<;>obtain⟨⟨r0,r1,r2,r3,r4,r5,r6,r7,r8⟩,g0,g1,g2,g3,g4,g5,g6,g7,g8⟩:=bx9 J7.out<;>first|(have rV:(x.2 != 0)=true:=by rw[bne_iff_ne];exact module_nz x hx)|(obtain⟨au,nu,du,av,nv,dv,ai,ni,di,af,nf,df,ao,no,do_,aw,nw,dw,ab,nb,db,uP,hem⟩:=hm;obtain⟨⟨d0,d1,d2,d3,d4,d5,d6,d7,d8⟩,e0,e1,e2,e3,e4,e5,e6,e7,e8⟩:=bx9 uP))|(go_at_call 36;refine HLx.out.mono ?_;rintro e w2 ⟨he,rQ⟩;obtain⟨v,rfl,sJ,tY⟩:=he;obtain⟨b,o,c,rfl,DP,tE,hb,yE⟩:=sJ.pos YO tY.pos;have sY:=rQ.size;have B3:=aA w2 (.cells eT 30);have B4:=aA (w2.alloc (.cells eT 30)) (oBx21 (some ⟨b,o,none⟩) l.length c 0);have B5:=aA ((w2.alloc (.cells eT 30)).alloc (oBx21 (some ⟨b,o,none⟩) l.length c 0)) (.cells #[.pointer (some ⟨w2.heap.size+1,0,none⟩)] 74);have z3:(w2.alloc (.cells eT 30)).heap.size=w2.heap.size+1:=YR;have z4:((w2.alloc (.cells eT 30)).alloc (oBx21 (some ⟨b,o,none⟩) l.length c 0)).heap.size=w2.heap.size+2:=YR;have TZ:=zh (aC B3 (aC B4 B5));have NO:=zh (aC (aC IO.out rQ) TZ.out);have QY:=bY (w2.alloc (.cells eT 30)) (oBx21 (some ⟨b,o,none⟩) l.length c 0);have hp2:=bY ((w2.alloc (.cells eT 30)).alloc (oBx21 (some ⟨b,o,none⟩) l.length c 0)) (.cells #[.pointer (some ⟨w2.heap.size+1,0,none⟩)] 74);rw[z3] at QY;rw[z4] at hp2;have HRun:Hid (RunAt ⟨l,b,o,c,w2.heap.size+1⟩ (((w2.alloc (.cells eT 30)).alloc (oBx21 (some ⟨b,o,none⟩) l.length c 0)).alloc (.cells #[.pointer (some ⟨w2.heap.size+1,0,none⟩)] 74)) (w2.heap.size+2) w2.heap.size):=zh ⟨prs_made tY hs8 ⟨DP,tE⟩ hb yE TZ.out (aH B5 QY) YM (HG.out _ NO.out) (sA.out _ NO.out) YM,hp2,aH (aC B4 B5) (bY w2 _),by show w2.heap.size≠w2.heap.size+1;omega,by show w2.heap.size+2≠w2.heap.size+1;omega,YM⟩;have HRes:=zh (aH (aC rQ TZ.out) (bY w (.cells eT 30)));clear QY hp2 B3 B4 B5 z3 z4 yE sJ tY))
  ·have hB6:=rK NO.out (ho.mono (S':=fun k=>w.heap.size<=k) fun k hk=>Or.elim hk (fun e=>by have e:k=w2.heap.size+1:=e;omega) (fun e=>by have e:k=w2.heap.size:=e;omega));refine bodyPost_ret (v:=.tuple #[.agg eT,.int .i64 x.1,.int .i64 x.2]) aBq rfl ⟨by rw[HE.out x hx];rfl,?_⟩;have vY:=qP w6 w.heap.size (.string ⟨#[]⟩) (.slice none 0 0) (.slice none 0 0) (.slice none 0 0) (.slice none 0 0) (.bool false) (.slice none 0 0) (.slice none 0 0) (.slice none 0 0);unfold set9 at vY;exact rK hB6 (vY.mono fun k hk=>Nat.le_of_eq (Eq.symm hk))
  have hB6:=rK NO.out (ho.mono (S':=fun k=>w.heap.size<=k) fun k hk=>Or.elim hk (fun e=>by have e:k=w2.heap.size+1:=e;omega) (fun e=>by have e:k=w2.heap.size:=e;omega));have AY:=TZ.out.size;have vY:=qP w6 w.heap.size (.string m.name) (.slice au nu du) (.slice av nv dv) (.slice ai ni di) (.slice af nf df) (.bool m.moves) (.slice ao no do_) (.slice aw nw dw) (.slice ab nb db);have hem9:=mJ.wide (N':=bQ w.heap.size) (mJ.off hem vY (fun b' uR hn=>by have uR:b'=w.heap.size:=uR;have hn:=Nat.le_trans AY hn;omega)) (fun b' uR _=>by have hn:=Nat.le_trans AY uR;show w.heap.size<=b';omega);unfold set9 at vY hem9;refine bodyPost_ret (v:=.tuple #[oBx19 m.name au nu du av nv dv ai ni di af nf df m.moves ao no do_ aw nw dw ab nb db,.int .i64 0,.int .i64 0]) aBq rfl ⟨?_,rK hB6 (vY.mono fun k hk=>Nat.le_of_eq (Eq.symm hk))⟩;rw[HK.out m j hx];exact⟨au,nu,du,av,nv,dv,ai,ni,di,af,nf,df,ao,no,do_,aw,nw,dw,ab,nb,db,rfl,hem9⟩
def pG(N:Nat->Prop)(w:World)(i:Ins)(cs:List Value):Prop:=∃vn,cs=[.int .i64 i.op,.int .i64 i.a,.string i.s,.string i.m,vn]/\i.s.size<=8000/\i.m.size<=8000/\aO 1 dD N w vn i.names/\ -1<=i.a/\i.a<=1099511627776
theorem iM:fL pG:=fun _ _ _ _ _ cs hm h=>by
 obtain⟨vn,h1,h2,h3,h4,h5⟩:=h;exact⟨vn,h1,h2,h3,h4.moves aV hm YO,h5⟩
def encCod(N:Nat->Prop)(w:World)(c:Cod)(cs:List Value):Prop:=∃vc,cs=[.string c.name,.int .i64 (c.params:Int),.int .i64 (c.locals:Int),vc]/\c.name.size<=8000/\aO 5 pG N w vc c.code
theorem oQ:fL encCod:=fun _ _ _ _ _ cs hm h=>by
 obtain⟨vc,h1,h2,h3⟩:=h;exact⟨vc,h1,h2,h3.moves iM hm YO⟩
structure Cp (B cb:Nat) (vars:List Fld) (vv:Value) (c:Cmp) (css:List (List Value)) (v:Value) (w:World):Prop where
 box:w.heap[cb]? =some (.cells #[vv,v,.int .i64 (c.locals:Int)] 226)
 gro:Gro 5 222 pG B c.code css v w
 row:aO 3 gS (cE cb v) w vv vars
 hcb:cb<B
 h11:11<=cb
 nv:vars.length<=1000
 glob:eJ w
section
variable {B cb:Nat} {vars:List Fld} {vv v v' v'':Value} {c:Cmp} {css:List (List Value)} {w w' w'':World}
theorem Cp.lt(h:Cp B cb vars vv c css v w):cb<w.heap.size:=(Array.getElem?_eq_some_iff.1 h.box).1
theorem Cp.own(h:Cp B cb vars vv c css v w):∀b,v.ownBlock=some b->B<=b/\b<w.heap.size:=h.gro.lt
theorem Cp.n11(h:Cp B cb vars vv c css v w):∀k,k<11->¬inC cb v k:=fun k hk hs=>by
 have h1:=h.h11;have h2:=h.hcb;rcases hs with hs|hs
 ·omega
 have:=(h.own k hs).1;omega
theorem Cp.later(h:Cp B cb vars vv c css v w)(hb:Below w.heap.size w w'):Cp B cb vars vv c css v w':=
 ⟨aH hb h.box,h.gro.later iM hb,h.row.moves aZ (bU.later hb) YO,h.hcb,h.h11,h.nv,h.glob.later hb⟩
theorem Cp.size_le(h:Cp B cb vars vv c css v w):B<=w.heap.size:=h.gro.big
theorem Cp.put{c':Cmp}{css':List (List Value)}(h:Cp B cb vars vv c css v w)(hx:Ext cb v w v' w')(vE:w'.heap[cb]? =some (.cells #[vv,v',.int .i64 (c'.locals:Int)] 226))
  (hgro:Gro 5 222 pG B c'.code css' v' w'):Cp B cb vars vv c' css' v' w':=
 ⟨vE,hgro,h.row.moves aZ hx.moves YO,h.hcb,h.h11,h.nv,h.glob.off hx.off h.n11⟩
end
theorem set_flat{k:Nat}{u:Value}{j:Nat}(hj:j<k):∀(css:List (List Value))(i:Nat)(c:List Value),(∀c,c∈css->c.length=k)->css[i]? =some c->(css.set i (c.set j u)).flatten=css.flatten.set (i*k+j) u
 |[],i,c,_,h=>Z0
 |d::css,0,c,hk,h=>by
  simp at h;subst h;have hd:=hk d YR;rw[List.set_cons_zero,List.flatten_cons,List.flatten_cons,Nat.zero_mul,Nat.zero_add,List.set_append,if_pos YM]
 |d::css,i+1,c,hk,h=>by
  have hd:=hk d YR;rw[List.set_cons_succ,List.flatten_cons,List.flatten_cons,set_flat hj css i c (fun c hc=>hk c (by simp[hc])) ZS,List.set_append,if_neg (by rw[hd,Nat.succ_mul];omega),hd];congr 2;rw[Nat.succ_mul];omega
theorem Gro.set1{α:Type}{k:Nat}{T:TypeId}{enc:(Nat->Prop)->World->α->List Value->Prop}{B:Nat}{l:List α}{css:List (List Value)}{w:World}{g cap n i j:Nat}{x y:α}{c:List Value}{u:Value}(he:fL enc)
  (h:Gro k T enc B l css (.slice (some ⟨g,0,none⟩) n cap) w) (hx:l[i]? =some x) (hc:css[i]? =some c) (hj:j<k)
  (hy:∀N W,enc N W x c->enc N W y (c.set j u)):Gro k T enc B (l.set i y) (css.set i (c.set j u)) (.slice (some ⟨g,0,none⟩) n cap) (w.setCell ⟨g,i*k+j,none⟩ u):=by
 have hm:bU (mO B (.slice (some ⟨g,0,none⟩) n cap)) w (mO B (.slice (some ⟨g,0,none⟩) n cap)) (w.setCell ⟨g,i*k+j,none⟩ u):=fun b hb rU=>by
  refine⟨hb,fun o z hz=>?_⟩;have rO:b≠g:=fun e=>hb.2 (by rw[e];rfl);exact(Off.setCell (S:=fun b=>b=g) w rfl).cell rO hz
 obtain⟨h1,h2⟩:=h.own;have hi:=(Yb.1 hc).1;refine⟨⟨?_,?_⟩,by simp[h.len],fun d hd=>?_,fun a z d hz hd=>?_,by simpa using h.big⟩
 ·rw[set_flat hj css i c h.ks hc,List.length_set,h1,List.length_set]
 ·rcases h2 with⟨h2,-⟩|⟨g',cap',cur,hv,hg,D9,r1,r2,r3,r4⟩
  ·cases h2
  cases hv;refine .inr ⟨g,cap,cur.setIfInBounds (i*k+j) u,by rw[List.length_set],hg,aT D9 u,by rw[List.length_set];exact r1,r2,by simpa using r3,?_⟩;rw[set_flat hj css i c h.ks hc,<-r4,Array.toList_setIfInBounds,List.length_set,List.take_set]
 ·rcases List.mem_or_eq_of_mem_set hd with hd|rfl
  ·exact h.ks d hd
  rw[List.length_set];exact h.ks c (List.mem_of_getElem? hc)
 by_cases ha:a=i
 ·subst ha;have hil:a<l.length:=by rw[<-h.len];exact hi
  rw[List.getElem?_set_self hil] at hz;rw[List.getElem?_set_self hi] at hd;cases hz;cases hd;exact hy _ _ (he _ _ _ _ _ _ hm (h.enc a x c hx hc))
 rw[List.getElem?_set_ne (fun e=>ha e.symm)] at hz hd;exact he _ _ _ _ _ _ hm (h.enc a z d hz hd)
theorem bx5{w:World}{b:Nat}{x0 x1 x2 x3 x4:Value}{t:TypeId}(h:w.heap[b]? =some (.cells #[x0,x1,x2,x3,x4] t)):
  (w.cell? ⟨b,0,none⟩=some x0/\w.cell? ⟨b,1,none⟩=some x1/\w.cell? ⟨b,2,none⟩=some x2/\w.cell? ⟨b,3,none⟩=some x3/\w.cell? ⟨b,4,none⟩=some x4)/\(w.frozen? ⟨b,0,none⟩=false/\w.frozen? ⟨b,1,none⟩=false/\w.frozen? ⟨b,2,none⟩=false/\w.frozen? ⟨b,3,none⟩=false/\w.frozen? ⟨b,4,none⟩=false):=
 ⟨⟨(bx h 0 rfl).1,(bx h 1 rfl).1,(bx h 2 rfl).1,(bx h 3 rfl).1,(bx h 4 rfl).1⟩,(bx h 0 (u:=x0) rfl).2,(bx h 1 (u:=x1) rfl).2,(bx h 2 (u:=x2) rfl).2,(bx h 3 (u:=x3) rfl).2,(bx h 4 (u:=x4) rfl).2⟩
def setI5(w:World)(b:Nat)(x0 x1 x2 x3 x4:Value):World:=((((w.setCell ⟨b,0,none⟩ x0).setCell ⟨b,1,none⟩ x1).setCell ⟨b,2,none⟩ x2).setCell ⟨b,3,none⟩ x3).setCell ⟨b,4,none⟩ x4
theorem setI5_off(w:World)(b:Nat)(x0 x1 x2 x3 x4:Value):Off (fun k=>k=b) w (setI5 w b x0 x1 x2 x3 x4):=by
 unfold setI5;exact(Off.refl _ _).one.one.one.one.one
theorem setI5_heap{w:World}{b:Nat}{y0 y1 y2 y3 y4:Value}{t:TypeId}(h:w.heap[b]? =some (.cells #[y0,y1,y2,y3,y4] t))(x0 x1 x2 x3 x4:Value):(setI5 w b x0 x1 x2 x3 x4).heap[b]? =some (.cells #[x0,x1,x2,x3,x4] t):=by
 unfold setI5;rw[aT (aT (aT (aT (aT h _) _) _) _) _];rfl
theorem insInfo:(Tryz.prog.info? 222).map (fun i=>(i.zero,i.size,i.bytes))=some (some (nT 0 0 ByteArray.empty ByteArray.empty none 0 0),5,72):=YN
theorem codInfo:(Tryz.prog.info? 219).map (fun i=>(i.zero,i.size,i.bytes))=some (some (oBx22 ByteArray.empty 0 0 none 0 0),4,56):=YN
end Go.Proofs.YtiionicikdnnpaaGreatDoor
namespace Go.Proofs.YtiionicikdnnpaaGreatDoor
open Go.RowKit
theorem XC{p:Prop}(h:p:=by
 go_wp2_with fail;go_ret
 exact⟨aF (by rw[HT.out,<-HD.out]),HB.out⟩):p:=h
theorem X4{p:Prop}(h:p:=by
 go_roundw;case rel=>exact⟨q+1,YM,YZ,zh (aC HB.out (aC (aA _ _) rR)),yG⟩
 case measure=>simp[intOf];omega):p:=h
def RightTyAll:Prop:=∀(d:Nat)(t:Ty)(N:Nat->Prop)(k:Int)(vf:Value)(w:World),d<=100->eJ w->iY N w t [.int .i64 k,vf]->
  Calls Tryz.prog 94 #[.agg #[.int .i64 k,vf],.int .i64 (d:Int)] w fun e w'=>e=.returned (.bool (aR d t))/\Below w.heap.size w w'
def RightXpAll:Prop:=∀(d:Nat)(x:Xp)(N:Nat->Prop)(op n:Int)(s m:bA)(vn va:Value)(w:World),d<=100->eJ w->bN N w x [.int .i64 op,.int .i64 n,.string s,.string m,vn,va]->
  Calls Tryz.prog 92 #[kP op n s m vn va,.int .i64 (d:Int)] w fun e w'=>e=.returned (.bool (aJ d x))/\Below w.heap.size w w'
theorem RightType_any(hT:RightTyAll)(t:Ty)(N:Nat->Prop)(k:Int)(vf:Value)(w:World)(hg:eJ w)(he:iY N w t [.int .i64 k,vf]):
  Calls Tryz.prog 29 #[.agg #[.int .i64 k,vf]] w fun e w'=>e=.returned (.bool (aR 4 t))/\Below w.heap.size w w':=by
 have hb:=aA w (.cells #[.int .i64 k,vf] 45);have HT:=zh (hT 4 t N k vf _ YO (hg.later hb) (fU _ _ _ _ _ _ (bU.later hb) he));obtain⟨a,n,c,rfl⟩:=encT_slice he;generalize aR 4 t=r at *;clear hT hg he;go_enter Tryz.func29,Tryz.ntmps29;go_wp2_with(go_at_call 94;refine HT.out.mono ?_;rintro e w2 ⟨rfl,rQ⟩);go_ret;exact⟨rfl,aC hb rQ⟩
theorem RightExp_any(hX:RightXpAll)(x:Xp)(N:Nat->Prop)(op n:Int)(s m:bA)(vn va:Value)(w:World)(hg:eJ w)(he:bN N w x [.int .i64 op,.int .i64 n,.string s,.string m,vn,va]):
  Calls Tryz.prog 27 #[kP op n s m vn va] w fun e w'=>e=.returned (.bool (aJ 12 x))/\Below w.heap.size w w':=by
 have hb:=aA w (oBx25 op n s m vn va);have HT:=zh (hX 12 x N op n s m vn va _ YO (hg.later hb) (aI _ _ _ _ _ _ (bU.later hb) he));obtain⟨⟨a1,n1,c1,rfl⟩,a2,n2,c2,rfl⟩:=hZ he;generalize aJ 12 x=r at *;clear hX hg he;go_enter Tryz.func27,Tryz.ntmps27;go_wp2_with(go_at_call 92;refine HT.out.mono ?_;rintro e w2 ⟨rfl,rQ⟩);go_ret;exact⟨rfl,aC hb rQ⟩
theorem all_at{α:Type}{p:α->Bool}{l:List α}{q:Nat}{x:α}(hx:l[q]? =some x):(l.drop q).all p=(p x&&(l.drop (q+1)).all p):=by
 obtain⟨hk,he⟩:=Yb.1 hx;rw[List.drop_eq_getElem_cons hk,he,List.all_cons]
theorem qC(hX:RightXpAll)(l:List Xp)(n:Nat)(N:Nat->Prop)(v:Value)(w:World)(hn:n<=1000)(hg:eJ w)(he:aO 6 bN N w v l):
  Calls Tryz.prog 81 #[v,.int .i64 (n:Int)] w fun e w'=>e=.returned (.bool (cK l n))/\Below w.heap.size w w':=by
 have HG:=zh (fun W(hb:Below w.heap.size w W)=>hg.later hb);have HX:=zh hX;have NH:l.length<=9223372036854775807:=by obtain⟨_,_,_,h1,h2,-⟩:=he;omega
 have DM:(n:Int)<=1000:=YM;have HR:Hid (cK l n=(l.all (aJ 12)&&decide (l.length=n))):=zh rfl;have HD:Hid (((l.length:Int)==(n:Int))=decide (l.length=n)):=zh ZJ;clear hg hX;rcases he.cases YO with⟨rfl,a,c,rfl⟩|⟨b,o,c,rfl,h0,h1,h2,hb,hN,hc⟩
 ·clear he;go_enter Tryz.func81,Tryz.ntmps81;go_wp2_with fail;go_loop [9] (fun i=>i=.int .i64 0) (fun _=>0)
  case atStart=>rfl
  case round=>
   subst hrel;go_wp2_with fail;go_ret;exact⟨aF (by rw[HR.out,<-HD.out];rfl),Below.refl _ _⟩
 have HC:=zh hc;clear hc he;go_enter Tryz.func81,Tryz.ntmps81;go_wp2_with fail;go_loopw [9] (fun iv wr=>∃q:Nat,q<=l.length/\iv=.int .i64 (q:Int)/\Hid (Below w.heap.size w wr)/\Hid (l.all (aJ 12)=(l.drop q).all (aJ 12))) (fun iv _=>l.length-(intOf iv).toNat)
 case atStart=>exact⟨0,Nat.zero_le _,rfl,zh (Below.refl _ _),zh rfl⟩
 case round=>
  obtain⟨q,hq,rfl,HB,sA⟩:=hrel;rename World=>wr
  by_cases rU:q<l.length
  ·obtain⟨x,hx,-⟩:=getElem?_of_lt rU;obtain⟨cs,uG,-,hj⟩:=HC.out q x hx;have vL:=zh (sA.out.trans (all_at hx))
   cases x with
   |mk wT n2 s2 m2 names2 args2=>
    have xT:=uG;rw[aU] at xT;obtain⟨vn2,va2,rfl,-,-,xQ,wB⟩:=xT;obtain⟨a1,RW,rfl,-⟩:=xQ;obtain⟨a2,cc2,rfl,-⟩:=wB;have c0:wr.cell? ⟨b,o+q*6,none⟩=some (.int .i64 wT):=aD HB.out (hj 0 _ rfl);have c1:=aD HB.out (hj 1 _ rfl);have c2:=aD HB.out (hj 2 _ rfl);have c3:=aD HB.out (hj 3 _ rfl);have c4:=aD HB.out (hj 4 _ rfl);have c5:=aD HB.out (hj 5 _ rfl);have HL:=zh (fun W(h:Below w.heap.size w W)=>RightExp_any HX.out (.mk wT n2 s2 m2 names2 args2) N wT n2 s2 m2 _ _ W (HG.out W h) (aI _ _ _ _ _ _ (bU.later h) uG));clear hj uG hx;generalize aJ 12 (.mk wT n2 s2 m2 names2 args2)=r0 at HL vL;generalize names2.length=ln at *;generalize args2.length=la at *
    cases r0 with
    |false=>
     have HF:Hid (cK l n=false):=zh (by rw[HR.out,vL.out];rfl);clear vL sA;go_wp2_with(go_at_call 27;refine(HL.out _ (aC HB.out (aA _ _))).mono ?_;rintro e w1 ⟨rfl,rR⟩);go_ret;exact⟨aF ZL,aC HB.out (aC (aA _ _) rR)⟩
    |true=>
     have yG:Hid (l.all (aJ 12)=(l.drop (q+1)).all (aJ 12)):=zh (by rw[vL.out];rfl);clear vL sA;go_wp2_with(go_at_call 27;refine(HL.out _ (aC HB.out (aA _ _))).mono ?_;rintro e w1 ⟨rfl,rR⟩);exact X4
  have wK:q=l.length:=YM;have HT:Hid (cK l n=decide (l.length=n)):=zh (by rw[HR.out,sA.out,wK,List.drop_length];rfl);exact XC
theorem WE{p:Prop}(h:p:=by
 go_enter Tryz.func163,Tryz.ntmps163;go_wp2_with fail;go_ret
 exact⟨aF (by rw[HR.out];decide),hb⟩):p:=h
theorem W1{p:Prop}(h:p:=by
 go_wp2_with fail;go_ret
 exact⟨aF ZT,hb⟩):p:=h
def gW(x:Xp)(op n:Int)(s m:bA)(vn va:Value)(w:World):Prop:=Calls Tryz.prog 163 #[kP op n s m vn va] w fun e w'=>e=.returned (.bool (eY x))/\Below w.heap.size w w'
theorem leaf_0(n:Int)(s m:bA)(names:List bA)(args:List Xp)(a1:Option Addr)(n1 c1:Nat)(a2:Option Addr)(c2:Nat)(w:World)(hg:eJ w)(hs:s.size<=8000)(hm:m.size<=8000):gW (.mk 0 n s m names args) 0 n s m (.slice a1 n1 c1) (.slice a2 args.length c2) w:=by
 unfold gW;have hb:=aA w (aN 0 n s m a1 n1 c1 a2 args.length c2);have HR:Hid (eY (.mk 0 n s m names args)=(decide (0<=n)&&decide (n<=1099511627776))):=zh rfl;clear hg;by_cases h1:0<=n
 ·by_cases h2:n<=1099511627776
  ·rw[decide_eq_true h1,decide_eq_true h2] at HR;go_enter Tryz.func163,Tryz.ntmps163;exact W1
  rw[decide_eq_true h1,decide_eq_false h2] at HR;go_enter Tryz.func163,Tryz.ntmps163;exact W1
 rw[decide_eq_false h1] at HR;go_enter Tryz.func163,Tryz.ntmps163;exact W1
theorem leaf_1(n:Int)(s m:bA)(names:List bA)(args:List Xp)(a1:Option Addr)(n1 c1:Nat)(a2:Option Addr)(c2:Nat)(w:World)(hg:eJ w)(hs:s.size<=8000)(hm:m.size<=8000):gW (.mk 1 n s m names args) 1 n s m (.slice a1 n1 c1) (.slice a2 args.length c2) w:=by
 unfold gW;have hb:=aA w (aN 1 n s m a1 n1 c1 a2 args.length c2);have HR:Hid (eY (.mk 1 n s m names args)=(decide (n=0)||decide (n=1))):=zh rfl;clear hg;by_cases h0:n=0
 ·subst h0;exact WE
 have g0:(n==0)=false:=by rw[beq_eq_false_iff_ne];exact h0
 by_cases h1:n=1
 ·subst h1;exact WE
 have g1:(n==1)=false:=aAr;go_enter Tryz.func163,Tryz.ntmps163;go_wp2_with fail;go_ret;exact⟨aF (by rw[HR.out];simp[h0,h1]),hb⟩
theorem leaf_16(n:Int)(s m:bA)(names:List bA)(args:List Xp)(a1:Option Addr)(n1 c1:Nat)(a2:Option Addr)(c2:Nat)(w:World)(hg:eJ w)(hs:s.size<=8000)(hm:m.size<=8000):gW (.mk 16 n s m names args) 16 n s m (.slice a1 n1 c1) (.slice a2 args.length c2) w:=by
 unfold gW;have hb:=aA w (aN 16 n s m a1 n1 c1 a2 args.length c2);have HR:Hid (eY (.mk 16 n s m names args)=(decide (n=1)||decide (n=2)||decide (n=4)||decide (n=8))):=zh rfl;clear hg;by_cases h1:n=1
 ·subst h1;exact WE
 have g1:(n==1)=false:=aAr;by_cases h2:n=2
 ·subst h2;exact WE
 have g2:(n==2)=false:=by rw[beq_eq_false_iff_ne];exact h2
 by_cases h4:n=4
 ·subst h4;exact WE
 have g4:(n==4)=false:=by rw[beq_eq_false_iff_ne];exact h4
 by_cases h8:n=8
 ·subst h8;exact WE
 have g8:(n==8)=false:=by rw[beq_eq_false_iff_ne];exact h8
 go_enter Tryz.func163,Tryz.ntmps163;go_wp2_with fail;go_ret;exact⟨aF (by rw[HR.out];simp[h1,h2,h4,h8]),hb⟩
theorem rB(op:Int)(ho:op=2\/op=17\/op=18\/op=14\/op=12)(n:Int)(s m:bA)(names:List bA)(args:List Xp)(a1:Option Addr)(n1 c1:Nat)(a2:Option Addr)(c2:Nat)(w:World)(hg:eJ w)(hs:s.size<=8000)(hm:m.size<=8000):gW (.mk op n s m names args) op n s m (.slice a1 n1 c1) (.slice a2 args.length c2) w:=by
 unfold gW;have hb:=aA w (aN op n s m a1 n1 c1 a2 args.length c2);have HR:Hid (eY (.mk op n s m names args)=aK s):=zh (by rcases ho with rfl|rfl|rfl|rfl|rfl<;>rfl);have HS:=zh (jW s _ YM (hg.later hb));generalize aK s=r at *;clear hg;rcases ho with rfl|rfl|rfl|rfl|rfl
 all_goals
  go_enter Tryz.func163,Tryz.ntmps163;go_wp2_with(go_at_call 17;refine HS.out.mono ?_;rintro e w2 ⟨rfl,rfl⟩);go_ret;exact⟨aF (by rw[HR.out]),hb⟩
theorem leaf_15(n:Int)(s m:bA)(names:List bA)(args:List Xp)(a1:Option Addr)(n1 c1:Nat)(a2:Option Addr)(c2:Nat)(w:World)(hg:eJ w)(hs:s.size<=8000)(hm:m.size<=8000):gW (.mk 15 n s m names args) 15 n s m (.slice a1 n1 c1) (.slice a2 args.length c2) w:=by
 unfold gW;have hb:=aA w (aN 15 n s m a1 n1 c1 a2 args.length c2);have HR:Hid (eY (.mk 15 n s m names args)=(aK s&&(decide (m=noB)||aK m)&&decide (args.length<=6))):=zh rfl;have HS:=zh (jW s _ YM (hg.later hb));have HM:=zh (jW m _ YM (hg.later hb));clear hg;have HL:Hid (decide ((args.length:Int)<=6)=decide (args.length<=6)):=zh ZJ
 cases uY:aK s with
 |false=>
  rw[uY] at HS HR;clear HM uY;go_enter Tryz.func163,Tryz.ntmps163;go_wp2_with fail;go_at_call 17;refine HS.out.mono ?_;rintro e w2 ⟨rfl,rfl⟩;exact W1
 |true=>
  rw[uY] at HS HR;clear uY;by_cases sM:m=noB
  ·subst sM;clear HM;go_enter Tryz.func163,Tryz.ntmps163;go_wp2_with fail;go_at_call 17;refine HS.out.mono ?_;rintro e w2 ⟨rfl,rfl⟩;go_wp2_with fail;go_ret;exact⟨aF (by rw[HR.out];rw[<-HL.out];rfl),hb⟩
  have AK:(m.toList==[])=false:=YY;rw[decide_eq_false sM] at HR;clear sM
  cases K5:aK m with
  |false=>
   rw[K5] at HM HR;clear K5;go_enter Tryz.func163,Tryz.ntmps163;go_wp2_with fail;go_at_call 17;refine HS.out.mono ?_;rintro e w2 ⟨rfl,rfl⟩;go_wp2_with fail;go_at_call 17;refine HM.out.mono ?_;rintro e w3 ⟨rfl,rfl⟩;exact W1
  |true=>
   rw[K5] at HM HR;clear K5;go_enter Tryz.func163,Tryz.ntmps163;go_wp2_with fail;go_at_call 17;refine HS.out.mono ?_;rintro e w2 ⟨rfl,rfl⟩;go_wp2_with fail;go_at_call 17;refine HM.out.mono ?_;rintro e w3 ⟨rfl,rfl⟩;go_wp2_with fail;go_ret;exact⟨aF (by rw[HR.out];rw[<-HL.out];rfl),hb⟩
theorem kY(op:Int)(ho:op=3\/op=4\/op=5\/op=6\/op=7\/op=8\/op=9\/op=10\/op=11)(n:Int)(s m:bA)(names:List bA)(args:List Xp)(a1:Option Addr)(n1 c1:Nat)(a2:Option Addr)(c2:Nat)(w:World)(hg:eJ w)(hs:s.size<=8000)(hm:m.size<=8000):gW (.mk op n s m names args) op n s m (.slice a1 n1 c1) (.slice a2 args.length c2) w:=by
 unfold gW;have hb:=aA w (aN op n s m a1 n1 c1 a2 args.length c2);have HR:Hid (eY (.mk op n s m names args)=true):=zh (by rcases ho with rfl|rfl|rfl|rfl|rfl|rfl|rfl|rfl|rfl<;>rfl);clear hg;rcases ho with rfl|rfl|rfl|rfl|rfl|rfl|rfl|rfl|rfl
 all_goals
  go_enter Tryz.func163,Tryz.ntmps163;go_wp2_with fail;go_ret;exact⟨aF (by rw[HR.out]),hb⟩
theorem WM{p:Prop}(h:p:=by
 refine zq 19 (.bool true) rfl ?_;refine zq 20 (.bool true) rfl ?_;refine zu 21 rfl ?_;refine zu 22 rfl ?_;refine zu 23 rfl ?_;refine zu 24 rfl ?_;refine zu 25 rfl ?_;refine zu 26 rfl ?_;refine zq 27 (.bool true) rfl ?_;try simp only[zn]
 refine wpAnyH_done YN ?_ _;go_wp2_with fail;go_ret
 exact⟨aF ZL,aC HB.out (aC (aA _ _) (aE _))⟩):p:=h
theorem WS{p:Prop}(h:p:=by
 go_enter Tryz.func94,Tryz.ntmps94;go_wp2_with fail;go_ret
 exact⟨aF ZL,aA _ _⟩):p:=h
theorem W8{p:Prop}(h:p:=by
 go_enter Tryz.func94,Tryz.ntmps94;go_wp2_with fail;go_loop [39] (fun i=>i=.int .i64 0) (fun _=>0)
 case atStart=>rfl
 case round=>
  subst hrel;go_wp2_with fail;go_ret
  exact⟨aF (by rw[HT.out]),aA _ _⟩):p:=h
theorem XS{p:Prop}(h:p:=by
 have HF:Hid (aR (d+1) (.mk kind fs)=false):=zh (by rw[yG.out];rfl);clear yG;go_wp2_with fail;go_ret
 exact⟨aF ZL,zM.out⟩):p:=h
theorem X2{p:Prop}(h:p:=by
 obtain⟨hk,he⟩:=Yb.1 hx
 rw[List.drop_eq_getElem_cons hk,he];rfl):p:=h
theorem fieldsOk_at{p:Ty->Bool}{fs:List Fld}{q:Nat}{nm:bA}{t:Ty}(hx:fs[q]? =some (nm,t))(before:Option bA):fF p before (fs.drop q)=(aK nm&&(match before with|none=>true|some b=>gtB nm b)&&p t&&fF p (some nm) (fs.drop (q+1))):=by
 exact X2
def oW(fs:List Fld)(q:Nat):Option bA:=if q=0 then none else(fs[q-1]?).map (·.1)
theorem pO(t:TypeId)(a b:bA)(w:World):(binOp .leq t (.string a) (.string b)).run Tryz.prog w=.ok (.bool (!gtB a b)) w:=by
 simp[binOp,Op.stringOp,gtB]
def RightTyAt(d:Nat):Prop:=∀(t:Ty)(N:Nat->Prop)(k:Int)(vf:Value)(w:World),d<=100->eJ w->iY N w t [.int .i64 k,vf]->
  Calls Tryz.prog 94 #[.agg #[.int .i64 k,vf],.int .i64 (d:Int)] w fun e w'=>e=.returned (.bool (aR d t))/\Below w.heap.size w w'
theorem rightType_zero:RightTyAt 0:=by
  intro t N k vf w _ hg he
  cases t with
  |mk kind fs=>
   have HR:Hid (aR 0 (.mk kind fs)=false):=zh rfl;obtain⟨a,n,c,rfl⟩:=encT_slice he;clear he hg;go_enter Tryz.func94,Tryz.ntmps94;go_wp2_with fail;go_ret;exact⟨aF (by rw[HR.out]),aA _ _⟩
theorem rightType_step(d:Nat)(IH:RightTyAt d):RightTyAt (d+1):=by
  rintro⟨kind,fs⟩ N k' vf w hd hg he;have EE:=he;rw[gV] at he;obtain⟨vf',hv,hr⟩:=he;cases hv;have U3:=zh (fun t N k vf w h2 h3=>IH t N k vf w YM h2 h3);have HG:=zh (fun W(hb:Below w.heap.size w W)=>hg.later hb);have HE0:=zh EE;have yJ:((d+1:Nat):Int)=(d:Int)+1:=YM;rw[yJ];have hd0:((d:Int)+1==0)=false:=YV;have OY:(d:Int)<=100:=YM;have HR:Hid (aR (d+1) (.mk kind fs)=(decide (0<=kind)&&decide (kind<3)&&decide (fs.length<=8)&&(decide (kind=2)||decide (fs.length=0))&&fF (aR d) none fs)):=zh rfl;clear yJ hg EE
  have vJ:Hid (¬(0<=kind/\kind<3/\fs.length<=8/\(kind=2\/fs.length=0))->aR (d+1) (.mk kind fs)=false):=zh (fun h=>by
   rw[HR.out]
   cases hb:(decide (0<=kind)&&decide (kind<3)&&decide (fs.length<=8)&&(decide (kind=2)||decide (fs.length=0))&&fF (aR d) none fs) with
   |false=>rfl
   |true=>
    simp only[Bool.and_eq_true,Bool.or_eq_true,decide_eq_true_eq] at hb
    exact absurd ⟨hb.1.1.1.1,hb.1.1.1.2,hb.1.1.2,hb.1.2⟩ h)
  obtain⟨a,c,rfl,hlc⟩:∃a c,vf=.slice a fs.length c/\fs.length<=c:=by obtain⟨a,c,h1,h2,-⟩:=hr;exact⟨a,c,h1,h2⟩
  have NH:fs.length<=9223372036854775807:=aBn;by_cases g1:0<=kind
  ·have g1':¬kind<0:=YM;by_cases g2:kind<3
   ·have g2':¬3<=kind:=YM;by_cases g3:fs.length<=8
    ·have g3':¬(8:Int)<(fs.length:Int):=YM;by_cases g4:kind=2\/fs.length=0
     ·have GQ:Hid (aR (d+1) (.mk kind fs)=fF (aR d) none fs):=zh (by rw[HR.out,decide_eq_true g1,decide_eq_true g2,decide_eq_true g3];rcases g4 with h|h<;>simp[h]);have OJ:=hr.cases YO;clear vJ HR;rcases OJ with⟨rfl,a',c',hv⟩|⟨b,o,c',hv,h0,h1,h2,hb,hN,hc⟩
      ·have HT:Hid (aR (d+1) (.mk kind [])=true):=zh GQ.out;clear GQ hv hr hlc NH g4 g3 g3';by_cases g5:kind=2
       ·(have h5:(kind != 2)=false:=by rw[bne_eq_false_iff_eq];exact g5);clear g5;exact W8
       (have h5:(kind != 2)=true:=by rw[bne_iff_ne];exact g5);exact W8
      cases hv;(have hk:kind=2:=by rcases g4 with h|h;(exact h);omega);(have h5:(kind != 2)=false:=by rw[bne_eq_false_iff_eq];exact hk);have HC:=zh hc;have NY:=zh (bY w (kE kind (some ⟨b,o,none⟩) fs.length c));clear hc hr g4 hk;go_enter Tryz.func94,Tryz.ntmps94;go_wp2_with fail;(go_loopw [39] (fun iv wr=>∃q:Nat,q<=fs.length/\iv=.int .i64 (q:Int)/\Hid (Below (w.alloc (kE kind (some ⟨b,o,none⟩) fs.length c)).heap.size (w.alloc (kE kind (some ⟨b,o,none⟩) fs.length c)) wr)/\Hid (aR (d+1) (.mk kind fs)=fF (aR d) (oW fs q) (fs.drop q))) (fun iv _=>fs.length-(intOf iv).toNat));case atStart=>exact⟨0,Nat.zero_le _,rfl,zh (Below.refl _ _),GQ⟩
      case round=>
       obtain⟨q,hq,rfl,sT,sA⟩:=hrel;(rename World=>wr);have HB:=zh (aC (aA w (kE kind (some ⟨b,o,none⟩) fs.length c)) sT.out);by_cases rU:q<fs.length
       ·obtain⟨x,hx,-⟩:=getElem?_of_lt rU;obtain⟨cs,⟨ct,rfl,hn,uG⟩,-,hj⟩:=HC.out q x hx;obtain⟨nm,ty⟩:=x
        cases ty with
        |mk k2 f2=>
         have xT:=uG;rw[gV] at xT;obtain⟨vf2,rfl,wB⟩:=xT;obtain⟨a2,c2,rfl,-⟩:=wB;generalize f2.length=n2 at *;have p0:wr.cell? ⟨b,o+q*3,none⟩=some (.string nm):=aD HB.out (hj 0 _ rfl);have p1:=aD HB.out (hj 1 _ rfl);have p2:=aD HB.out (hj 2 _ rfl);have HL:=zh (fun W(h:Below w.heap.size w W)=>U3.out (.mk k2 f2) N k2 _ W (HG.out W h) (fU _ _ _ _ _ _ (bU.later h) uG));have vL:=zh (sA.out.trans (fieldsOk_at hx (oW fs q)));(have hpv:oW fs (q+1)=some nm:=by unfold oW;rw[if_neg YM,Nat.add_sub_cancel,hx];rfl);rw[<-hpv] at vL;have tK:nm.size<=8000:=hn;clear hj hpv uG hn;generalize aR d (.mk k2 f2)=r0 at HL vL;go_wp2_with fail;obtain⟨q0,q1,q2,-⟩:=bxT3 (bY wr (dB nm k2 a2 n2 c2));obtain⟨t0,t1,-⟩:=bxT2 (aH (aC sT.out (aA wr (dB nm k2 a2 n2 c2))) NY.out)
         cases uY:aK nm with
         |false=>
          have HF:Hid (aR (d+1) (.mk kind fs)=false):=zh (by rw[vL.out,uY];rfl);clear vL sA;refine wp_region_held_drew (S:=(fun W=>Below (wr.alloc (dB nm k2 a2 n2 c2)).heap.size (wr.alloc (dB nm k2 a2 n2 c2)) W)) YN (aE _) fun hS=>?_;refine zq 0 (.pointer (some ⟨wr.heap.size,0,none⟩)) rfl ?_;refine zt 1 (.string nm) rfl (fun W hW=>YU) ?_;(try simp only[zn]);refine zr 2 rfl (fun K hK=>?_);(try simp only[z1,z2,z3]);go_simp;refine(jW nm (wr.alloc (dB nm k2 a2 n2 c2)).drew YM (HG.out _ (aC HB.out (aC (aA _ _) (aE _))))).mono ?_;rintro e w5 ⟨rfl,rfl⟩;rw[uY];refine hK.out _ _ hS (fun hS=>?_);clear hK K;refine zq 3 (.bool true) rfl ?_;refine zq 4 (.bool true) rfl ?_;refine zu 5 rfl ?_;refine zu 6 rfl ?_;refine zu 7 rfl ?_;refine zu 8 rfl ?_;refine zu 9 rfl ?_;refine zu 10 rfl ?_;refine zu 11 rfl ?_;refine zu 12 rfl ?_;refine zu 13 rfl ?_;refine zu 14 rfl ?_;refine zu 15 rfl ?_;refine zu 16 rfl ?_;refine zu 17 rfl ?_;refine zu 18 rfl ?_;exact WM
         |true=>
          by_cases wI:q=0
          ·subst wI;have yG:Hid (aR (d+1) (.mk kind fs)=(r0&&fF (aR d) (oW fs (0+1)) (fs.drop (0+1)))):=zh (by rw[vL.out,uY];simp[oW]);clear vL sA;refine wp_region_held_drew (S:=(fun W=>Below (wr.alloc (dB nm k2 a2 n2 c2)).heap.size (wr.alloc (dB nm k2 a2 n2 c2)) W)) YN (aE _) fun hS=>?_;refine zq 0 (.pointer (some ⟨wr.heap.size,0,none⟩)) rfl ?_;refine zt 1 (.string nm) rfl (fun W hW=>YU) ?_;(try simp only[zn]);refine zr 2 rfl (fun K hK=>?_);(try simp only[z1,z2,z3]);go_simp;refine(jW nm (wr.alloc (dB nm k2 a2 n2 c2)).drew YM (HG.out _ (aC HB.out (aC (aA _ _) (aE _))))).mono ?_;rintro e w5 ⟨rfl,rfl⟩;rw[uY];refine hK.out _ _ hS (fun hS=>?_);clear hK K;refine zq 3 (.bool false) rfl ?_;refine zq 4 (.bool false) rfl ?_;refine zq 5 (.int .i64 0) rfl ?_;refine zq 6 (.bool false) rfl ?_;refine zq 7 (.bool false) rfl ?_;refine zu 8 rfl ?_;refine zu 9 rfl ?_;refine zu 10 rfl ?_;refine zu 11 rfl ?_;refine zu 12 rfl ?_;refine zu 13 rfl ?_;refine zu 14 rfl ?_;refine zu 15 rfl ?_;refine zu 16 rfl ?_;refine zu 17 rfl ?_;refine zq 18 (.bool false) rfl ?_;refine zq 19 (.bool false) rfl ?_;refine zq 20 (.bool false) rfl ?_;refine zq 21 (.pointer (some ⟨wr.heap.size,1,none⟩)) rfl ?_;refine zt 22 (.agg #[.int .i64 k2,.slice a2 n2 c2]) rfl (fun W hW=>YU) ?_;refine zq 23 (.int .i64 ((d:Int)+1)) rfl ?_;refine zt 24 (.int .i64 (d:Int)) rfl (fun W hW=>aAJ) ?_;(try simp only[zn]);refine zr 25 rfl (fun K hK=>?_);(try simp only[z1,z2,z3]);go_simp;refine(HL.out _ (aC HB.out (aC (aA _ _) (aE _)))).mono ?_;rintro e w6 ⟨rfl,uB⟩;have TV:Below (wr.alloc (dB nm k2 a2 n2 c2)).heap.size (wr.alloc (dB nm k2 a2 n2 c2)) w6:=aC (aE _) uB;refine hK.out _ _ TV (fun hS=>?_);clear hK K;refine zq 26 (.bool (!r0)) rfl ?_;refine zq 27 (.bool (!r0)) rfl ?_;(try simp only[zn]);refine wpAnyH_done YN ?_ _;have BN:=zh (aC sT.out (aC (aA wr (dB nm k2 a2 n2 c2)) TV));have zM:=zh (aC (aA w (kE kind (some ⟨b,o,none⟩) fs.length c)) BN.out)
           cases r0 with
           |false=>
            exact XS
           |true=>
            have NT:Hid (aR (d+1) (.mk kind fs)=fF (aR d) (oW fs (0+1)) (fs.drop (0+1))):=zh (by rw[yG.out];rfl);clear yG hS TV uB HL q0 q1 q2 t0 t1 p0 p1 p2;go_wp2_with fail;go_roundw;(case rel=>exact⟨0+1,YM,YZ,BN,NT⟩);case measure=>simp[intOf];omega
          have AJ:0<q:=YM;obtain⟨y,hy,-⟩:=getElem?_of_lt (l:=fs) (k:=q-1) YM;obtain⟨cs',⟨ct',rfl,hn',het'⟩,-,BI⟩:=HC.out (q-1) y hy;obtain⟨pn,ty'⟩:=y;have hp0:(wr.alloc (dB nm k2 a2 n2 c2)).cell? ⟨b,o+(q-1)*3,none⟩=some (.string pn):=aD (aC HB.out (aA _ _)) aA7;(have hpv:oW fs q=some pn:=by unfold oW;rw[if_neg wI,hy];rfl);rw[hpv] at vL;clear BI het' hn' hpv
          cases zI:gtB nm pn with
          |false=>
           (have FX:∀W,(binOp .leq 9 (.string nm) (.string pn)).run Tryz.prog W=.ok (.bool true) W:=fun W=>by rw[pO,zI];rfl);have HF:Hid (aR (d+1) (.mk kind fs)=false):=zh aAj;clear vL sA;refine wp_region_held_drew (S:=(fun W=>Below (wr.alloc (dB nm k2 a2 n2 c2)).heap.size (wr.alloc (dB nm k2 a2 n2 c2)) W)) YN (aE _) fun hS=>?_;refine zq 0 (.pointer (some ⟨wr.heap.size,0,none⟩)) rfl ?_;refine zt 1 (.string nm) rfl (fun W hW=>YU) ?_;(try simp only[zn]);refine zr 2 rfl (fun K hK=>?_);(try simp only[z1,z2,z3]);go_simp;refine(jW nm (wr.alloc (dB nm k2 a2 n2 c2)).drew YM (HG.out _ (aC HB.out (aC (aA _ _) (aE _))))).mono ?_;rintro e w5 ⟨rfl,rfl⟩;rw[uY];refine hK.out _ _ hS (fun hS=>?_);clear hK K;refine zq 3 (.bool false) rfl ?_;refine zq 4 (.bool false) rfl ?_;refine zq 5 (.int .i64 (q:Int)) rfl ?_;refine zq 6 (.bool true) rfl ?_;refine zq 7 (.bool true) rfl ?_;refine zq 8 (.pointer (some ⟨wr.heap.size,0,none⟩)) rfl ?_;refine zt 9 (.string nm) rfl (fun W hW=>YU) ?_;refine zq 10 (.pointer (some ⟨w.heap.size,1,none⟩)) rfl ?_;refine zt 11 (.slice (some ⟨b,o,none⟩) fs.length c) rfl (fun W hW=>YU) ?_;refine zq 12 (.int .i64 (q:Int)) rfl ?_;refine zt 13 (.int .i64 ((q:Int)-1)) rfl (fun W hW=>aAE) ?_;refine zt 14 (.pointer (some ⟨b,o+(q-1)*3,none⟩)) rfl (fun W hW=>ZY) ?_;refine zq 15 (.pointer (some ⟨b,o+(q-1)*3,none⟩)) rfl ?_;refine zt 16 (.string pn) rfl (fun W hW=>aAg) ?_;refine zt 17 (.bool true) rfl (fun W hW=>by have yM:=FX W;go_simp) ?_;refine zq 18 (.bool true) rfl ?_;exact WM
          |true=>
           (have FX:∀W,(binOp .leq 9 (.string nm) (.string pn)).run Tryz.prog W=.ok (.bool false) W:=fun W=>by rw[pO,zI];rfl);have yG:Hid (aR (d+1) (.mk kind fs)=(r0&&fF (aR d) (oW fs (q+1)) (fs.drop (q+1)))):=zh aAj;clear vL sA;refine wp_region_held_drew (S:=(fun W=>Below (wr.alloc (dB nm k2 a2 n2 c2)).heap.size (wr.alloc (dB nm k2 a2 n2 c2)) W)) YN (aE _) fun hS=>?_;refine zq 0 (.pointer (some ⟨wr.heap.size,0,none⟩)) rfl ?_;refine zt 1 (.string nm) rfl (fun W hW=>YU) ?_;(try simp only[zn]);refine zr 2 rfl (fun K hK=>?_);(try simp only[z1,z2,z3]);go_simp;refine(jW nm (wr.alloc (dB nm k2 a2 n2 c2)).drew YM (HG.out _ (aC HB.out (aC (aA _ _) (aE _))))).mono ?_;rintro e w5 ⟨rfl,rfl⟩;rw[uY];refine hK.out _ _ hS (fun hS=>?_);clear hK K;refine zq 3 (.bool false) rfl ?_;refine zq 4 (.bool false) rfl ?_;refine zq 5 (.int .i64 (q:Int)) rfl ?_;refine zq 6 (.bool true) rfl ?_;refine zq 7 (.bool true) rfl ?_;refine zq 8 (.pointer (some ⟨wr.heap.size,0,none⟩)) rfl ?_;refine zt 9 (.string nm) rfl (fun W hW=>YU) ?_;refine zq 10 (.pointer (some ⟨w.heap.size,1,none⟩)) rfl ?_;refine zt 11 (.slice (some ⟨b,o,none⟩) fs.length c) rfl (fun W hW=>YU) ?_;refine zq 12 (.int .i64 (q:Int)) rfl ?_;refine zt 13 (.int .i64 ((q:Int)-1)) rfl (fun W hW=>aAE) ?_;refine zt 14 (.pointer (some ⟨b,o+(q-1)*3,none⟩)) rfl (fun W hW=>ZY) ?_;refine zq 15 (.pointer (some ⟨b,o+(q-1)*3,none⟩)) rfl ?_;refine zt 16 (.string pn) rfl (fun W hW=>aAg) ?_;refine zt 17 (.bool false) rfl (fun W hW=>by have yM:=FX W;go_simp) ?_;refine zq 18 (.bool false) rfl ?_;refine zq 19 (.bool false) rfl ?_;refine zq 20 (.bool false) rfl ?_;refine zq 21 (.pointer (some ⟨wr.heap.size,1,none⟩)) rfl ?_;refine zt 22 (.agg #[.int .i64 k2,.slice a2 n2 c2]) rfl (fun W hW=>YU) ?_;refine zq 23 (.int .i64 ((d:Int)+1)) rfl ?_;refine zt 24 (.int .i64 (d:Int)) rfl (fun W hW=>aAJ) ?_;(try simp only[zn]);refine zr 25 rfl (fun K hK=>?_);(try simp only[z1,z2,z3]);go_simp;refine(HL.out _ (aC HB.out (aC (aA _ _) (aE _)))).mono ?_;rintro e w6 ⟨rfl,uB⟩;have TV:Below (wr.alloc (dB nm k2 a2 n2 c2)).heap.size (wr.alloc (dB nm k2 a2 n2 c2)) w6:=aC (aE _) uB;refine hK.out _ _ TV (fun hS=>?_);clear hK K;refine zq 26 (.bool (!r0)) rfl ?_;refine zq 27 (.bool (!r0)) rfl ?_;(try simp only[zn]);refine wpAnyH_done YN ?_ _;have BN:=zh (aC sT.out (aC (aA wr (dB nm k2 a2 n2 c2)) TV));have zM:=zh (aC (aA w (kE kind (some ⟨b,o,none⟩) fs.length c)) BN.out)
           cases r0 with
           |false=>
            exact XS
           |true=>
            have NT:Hid (aR (d+1) (.mk kind fs)=fF (aR d) (oW fs (q+1)) (fs.drop (q+1))):=zh (by rw[yG.out];rfl);clear yG hS TV uB HL q0 q1 q2 t0 t1 p0 p1 p2;go_wp2_with fail;go_roundw;(case rel=>exact⟨q+1,YM,YZ,BN,NT⟩);case measure=>simp[intOf];omega
       have wK:q=fs.length:=YM;have HT:Hid (aR (d+1) (.mk kind fs)=true):=zh aAn;go_wp2_with fail;go_ret;exact⟨aF (by rw[HT.out]),HB.out⟩
     have h4:¬kind=2:=fun e=>g4 (.inl e);(have h4':(kind != 2)=true:=by rw[bne_iff_ne];exact h4);(have h5:(0:Int)<(fs.length:Int):=by have:¬fs.length=0:=fun e=>g4 (.inr e);omega);have HF:=zh (vJ.out (fun h=>g4 h.2.2.2));clear vJ g4;exact WS
    have g3':(8:Int)<(fs.length:Int):=YM;have HF:=zh (vJ.out (fun h=>g3 h.2.2.1));clear vJ;exact WS
   have g2':3<=kind:=YM;have HF:=zh (vJ.out (fun h=>g2 h.2.1));clear vJ;exact WS
  have g1':kind<0:=YM;have HF:=zh (vJ.out (fun h=>g1 h.1));clear vJ;exact WS
theorem rightType_any:∀(d:Nat)(t:Ty)(N:Nat->Prop)(k:Int)(vf:Value)(w:World),d<=100->eJ w->iY N w t [.int .i64 k,vf]->
  Calls Tryz.prog 94 #[.agg #[.int .i64 k,vf],.int .i64 (d:Int)] w fun e w'=>e=.returned (.bool (aR d t))/\Below w.heap.size w w':=fun d=>by
 induction d with
 |zero=>exact rightType_zero
 |succ d ih=>exact rightType_step d ih
theorem WD{p:Prop}(h:p:=by
 clear vL sA;go_wp2_with(go_at_call 17;refine(fB x wr NA (HG.out _ HB.out)).mono ?_;rintro e w5 ⟨rfl,rfl⟩;rw[uY]);go_ret
 exact⟨aF ZL,HB.out⟩):p:=h
theorem fB(s:bA)(w:World)(hs:s.size<=140737488355328)(hg:eJ w):
  Calls Tryz.prog 17 #[.string s] w fun e w'=>e=.returned (.bool (aK s))/\w=w':=by
 exact V0
theorem namesOk_at{l:List bA}{q:Nat}{x:bA}(hx:l[q]? =some x)(before:Option bA):dY before (l.drop q)=(aK x&&(match before with|none=>true|some b=>gtB x b)&&dY (some x) (l.drop (q+1))):=by
 exact X2
def mP(l:List bA)(q:Nat):Option bA:=if q=0 then none else l[q-1]?
theorem leaf_13(n:Int)(s m:bA)(names:List bA)(args:List Xp)(N:Nat->Prop)(vn:Value)(a2:Option Addr)(n2 c2:Nat)(w:World)(hg:eJ w)(hr:aO 1 dD N w vn names):gW (.mk 13 n s m names args) 13 n s m vn (.slice a2 n2 c2) w:=by
 unfold gW;have HG:=zh (fun W(hb:Below w.heap.size w W)=>hg.later hb);have HR:Hid (eY (.mk 13 n s m names args)=(dY none names&&decide (names.length<=8))):=zh rfl;have HD:Hid (decide ((names.length:Int)<=8)=decide (names.length<=8)):=zh ZJ;clear hg;have NH:names.length<=9223372036854775807:=aBn;rcases hr.cases YO with⟨rfl,a,c,rfl⟩|⟨b,o,c,rfl,h0,h1,h2,hb,hN,hc⟩
 ·clear hr;go_enter Tryz.func163,Tryz.ntmps163;go_wp2_with fail;go_loop [82] (fun i=>i=.int .i64 0) (fun _=>0)
  case atStart=>rfl
  case round=>
   subst hrel;go_wp2_with fail;go_ret;exact⟨aF ZT,aA _ _⟩
 have HC:=zh hc;have NY:=zh (bY w (aN 13 n s m (some ⟨b,o,none⟩) names.length c a2 n2 c2));clear hc hr;go_enter Tryz.func163,Tryz.ntmps163;go_wp2_with fail;go_loopw [82] (fun iv wr=>∃q:Nat,q<=names.length/\iv=.int .i64 (q:Int)/\Hid (Below (w.alloc (aN 13 n s m (some ⟨b,o,none⟩) names.length c a2 n2 c2)).heap.size (w.alloc (aN 13 n s m (some ⟨b,o,none⟩) names.length c a2 n2 c2)) wr)/\Hid (eY (.mk 13 n s m names args)=(dY (mP names q) (names.drop q)&&decide (names.length<=8)))) (fun iv _=>names.length-(intOf iv).toNat)
 case atStart=>exact⟨0,Nat.zero_le _,rfl,zh (Below.refl _ _),HR⟩
 case round=>
  obtain⟨q,hq,rfl,sT,sA⟩:=hrel;rename World=>wr
  have HB:=zh (aC (aA w (aN 13 n s m (some ⟨b,o,none⟩) names.length c a2 n2 c2)) sT.out);obtain⟨⟨t0,t1,t2,t3,t4,t5⟩,-⟩:=bx6 (aH sT.out NY.out);by_cases rU:q<names.length
  ·obtain⟨x,hx,tD⟩:=getElem?_of_lt rU;obtain⟨cs,⟨rfl,NA⟩,-,hj⟩:=HC.out q x hx;have p0:wr.cell? ⟨b,o+q,none⟩=some (.string x):=aD HB.out ZR;have vL:=zh (sA.out.trans (congrArg (fun z=>z&&decide (names.length<=8)) (namesOk_at hx (mP names q))));(have hpv:mP names (q+1)=some x:=by unfold mP;rw[if_neg YM,Nat.add_sub_cancel,hx]);rw[<-hpv] at vL;clear hj hpv tD
   cases uY:aK x with
   |false=>
    have HF:Hid (eY (.mk 13 n s m names args)=false):=zh (by rw[vL.out,uY];rfl);exact WD
   |true=>
    by_cases wI:q=0
    ·subst wI;(have DX:wr.cell? ⟨b,o,none⟩=some (.string x):=by simpa using p0);have yG:Hid (eY (.mk 13 n s m names args)=(dY (mP names (0+1)) (names.drop (0+1))&&decide (names.length<=8))):=zh (by rw[vL.out,uY];simp[mP]);clear vL sA;go_wp2_with(go_at_call 17;refine(fB x wr NA (HG.out _ HB.out)).mono ?_;rintro e w5 ⟨rfl,rfl⟩;rw[uY]);go_roundw;(case rel=>exact⟨0+1,YM,YZ,sT,yG⟩);case measure=>simp[intOf];omega
    have AJ:0<q:=YM;obtain⟨y,hy,-⟩:=getElem?_of_lt (l:=names) (k:=q-1) YM;obtain⟨cs',⟨rfl,-⟩,-,BI⟩:=HC.out (q-1) y hy;have hp0:wr.cell? ⟨b,o+(q-1),none⟩=some (.string y):=aD HB.out aA7;(have hpv:mP names q=some y:=by unfold mP;rw[if_neg wI,hy]);rw[hpv] at vL;clear BI hpv;have xK:(0:Int)<(q:Int):=YM;have I8:(0:Int)<=(q:Int)-1:=YM;have LH:(q:Int)-1<(names.length:Int):=YM;have TA:((q:Int)-1).toNat=q-1:=YM;have hi4:¬(q:Int)<1:=YM
    cases zI:gtB x y with
    |false=>
     (have FX:∀W,(binOp .leq 9 (.string x) (.string y)).run Tryz.prog W=.ok (.bool true) W:=fun W=>by rw[pO,zI];rfl);have HF:Hid (eY (.mk 13 n s m names args)=false):=zh aAj;exact WD
    |true=>
     (have FX:∀W,(binOp .leq 9 (.string x) (.string y)).run Tryz.prog W=.ok (.bool false) W:=fun W=>by rw[pO,zI];rfl);have yG:Hid (eY (.mk 13 n s m names args)=(dY (mP names (q+1)) (names.drop (q+1))&&decide (names.length<=8))):=zh aAj;clear vL sA;go_wp2_with(go_at_call 17;refine(fB x wr NA (HG.out _ HB.out)).mono ?_;rintro e w5 ⟨rfl,rfl⟩;rw[uY]);go_roundw;(case rel=>exact⟨q+1,YM,YZ,sT,yG⟩);case measure=>simp[intOf];omega
  have wK:q=names.length:=YM;have HT:Hid (eY (.mk 13 n s m names args)=decide (names.length<=8)):=zh aAn;exact XC
end Go.Proofs.YtiionicikdnnpaaGreatDoor
