/- Texts of this seat, joined. -/
import Derived.Test.YtmpopphjaggeoaaGreatDoorKW
set_option maxHeartbeats 16000000
set_option maxRecDepth 100000
set_option linter.unusedVariables false
set_option linter.unusedSimpArgs false
set_option linter.constructorNameAsVariable false
namespace Go.Proofs.YtmpopphjaggeoaaGreatDoor
open Go.RowKit Go.Shelf
theorem CN{p:Prop}(h:p:=by
 go_roundw;case rel=>exact⟨k+1,CR,C5,HE,zh (aA HW.out jP)⟩
 case measure=>simp[intOf];omega):p:=h
theorem run_geq_s(t:TypeId)(a b:bA)(w:World):(binOp .geq t (.string a) (.string b)).run Tryz.prog w=.ok (.bool (!Op.bytesLess a.toList b.toList)) w:=by
 simp[binOp,Op.stringOp]
def prvS(l:List bA)(k:Nat):Option bA:=if k=0 then none else l[k-1]?
theorem list_drop{l:List bA}{k:Nat}{x:bA}{r:Bool}(hx:l[k]? =some x)(hr:r=gQ (prvS l k) (l.drop k)):
  r=(bT x&&(match prvS l k with|none=>true|some b=>ltS b x)&&gQ (prvS l (k+1)) (l.drop (k+1))):=by
 obtain⟨h1,h2⟩:=Yb.1 hx;rw[hr,List.drop_eq_getElem_cons h1,h2,gQ.eq_def];dsimp only;have:prvS l (k+1)=some x:=by unfold prvS;rw[if_neg CR];simpa using hx
 rw[this];rfl
theorem listOk_any(l:List bA)(v:Value)(w:World)(hG:bC w)(hv:Strs w v l):
  Calls Tryz.prog 75 #[v] w fun e w'=>e=.returned (.bool (dC l))/\Below w.heap.size w w':=by
 have HN:=zh (fun(x:bA)(hx:x.size<=140737488355328)W(hb:Below w.heap.size w W)=>eY x W (hG.later hb) hx);have HL:Hid (dC l=(gQ none l&&decide (l.length<=12))):=zh rfl;generalize dC l=r at HL ⊢;rcases hv.cases with⟨rfl,a,c,rfl⟩|⟨b,o,c,rfl,h0,h1,h2,hb,hc⟩
 ·clear hv;go_enter Tryz.func75,Tryz.ntmps75;go_wp2_with fail;go_loopw [7] (fun i wr=>i=.int .i64 0/\wr=w) (fun i _=>0)
  case atStart=>exact⟨rfl,rfl⟩
  case round=>
   obtain⟨rfl,rfl⟩:=hrel;go_wp2_with fail;go_ret;exact⟨aF (by rw[HL.out];rfl),Below.refl _ _⟩
 clear hv;go_enter Tryz.func75,Tryz.ntmps75;go_wp2_with fail;go_loopw [7] (fun i wr=>∃k:Nat,k<=l.length/\i=.int .i64 k/\Hid (gQ none l=gQ (prvS l k) (l.drop k))/\Hid (Below w.heap.size w wr)) (fun i _=>l.length-(intOf i).toNat)
 case atStart=>exact⟨0,Nat.zero_le _,rfl,zh rfl,zh (Below.refl _ _)⟩
 case round=>
  obtain⟨k,hk,rfl,HR,HW⟩:=hrel;rename World=>wr
  by_cases jM:k<l.length
  ·obtain⟨x,hx,-⟩:=getElem?_of_lt jM;obtain⟨c1,mO⟩:=hc k x hx;have c2:=aD HW.out c1;have nN:(0:Int)<=(k:Int)/\(k:Int)<(l.length:Int):=CR;have HD:=zh (list_drop hx HR.out);have HX:=zh hx;clear hx HR c1;have pQ:=zh (HN.out x mO wr HW.out)
   cases hn:bT x with
   |false=>
    have HE:Hid (r=false):=zh (by rw[HL.out,HD.out,hn];rfl);rw[hn] at pQ;clear hn HD HL hc;go_wp2_with(go_at_call 33;refine pQ.out.mono ?_;rintro e w2 ⟨rfl,jP⟩);go_ret;exact⟨aF HE.out.symm,aA HW.out jP⟩
   |true=>
    rw[hn] at pQ;by_cases hz:k=0
    ·have HE:Hid (gQ none l=gQ (prvS l (k+1)) (l.drop (k+1))):=zh (by rw[HD.out,hn,hz];simp[prvS]);have hkp:¬(0:Int)<(k:Int):=CR;clear hn HD hc hz;go_wp2_with(go_at_call 33;refine pQ.out.mono ?_;rintro e w2 ⟨rfl,jP⟩);exact CN
    obtain⟨y,hy,-⟩:=getElem?_of_lt (show k-1<l.length by omega);(have tX:prvS l k=some y:=by unfold prvS;rw[if_neg hz];exact hy);have c3:=(hc (k-1) y hy).1;have qH:(0:Int)<=(k:Int)-1/\(k:Int)-1<(l.length:Int):=CR;have hkp:(0:Int)<(k:Int):=CR;have rJ:IntKind.i64.wrap ((k:Int)-1)=(k:Int)-1:=bN CR CR;have hkn:((k:Int)-1).toNat=k-1:=CR;have hge:=run_geq_s;have c4:=fun W(hW:Below w.heap.size w W)=>aD hW c3;have C4:=zh c4;clear c4;have mL:Hid (gQ none l=(ltS y x&&gQ (prvS l (k+1)) (l.drop (k+1)))):=zh (by rw[HD.out,hn,tX];simp);clear hc HD c3 hy hn tX
    cases zG:ltS y x with
    |true=>
     have HE:Hid (gQ none l=gQ (prvS l (k+1)) (l.drop (k+1))):=zh (by rw[mL.out,zG];simp);have hls2:Op.bytesLess y.toList x.toList=true:=zG;clear zG mL;go_wp2_with(go_at_call 33;refine pQ.out.mono ?_;rintro e w2 ⟨rfl,jP⟩;have c5:=C4.out _ (aA HW.out jP));exact CN
    |false=>
     have HE:Hid (r=false):=zh (by rw[HL.out,mL.out,zG];simp);have hls2:Op.bytesLess y.toList x.toList=false:=zG;clear zG mL HL;go_wp2_with(go_at_call 33;refine pQ.out.mono ?_;rintro e w2 ⟨rfl,jP⟩;have c5:=C4.out _ (aA HW.out jP));go_ret;exact⟨aF HE.out.symm,aA HW.out jP⟩
  have HE:Hid (gQ none l=true):=zh DV;have hd:decide ((l.length:Int)<=12)=decide (l.length<=12):=by rw[decide_eq_decide];omega
  have HF:Hid (r=decide (l.length<=12)):=zh (by rw[HL.out,HE.out];rfl);clear HE HL HR;go_wp2_with fail;go_ret;exact⟨aF (by rw[HF.out,<-hd]),HW.out⟩
end Go.Proofs.YtmpopphjaggeoaaGreatDoor
namespace Go.Proofs.YtmpopphjaggeoaaGreatDoor
open Go.RowKit
theorem setc_flat{k j:Nat}(hj:j<k):∀(css:List (List Value))(i:Nat)(c:List Value){u:Value},(∀c∈css,c.length=k)->css[i]? =some c->(css.set i (c.set j u)).flatten=css.flatten.set (i*k+j) u
 |[],i,c,u,_,h=>EY
 |d::css,0,c,u,hk,h=>by
  simp at h;subst h;have hd:=hk d C0;simp only[List.set_cons_zero,List.flatten_cons,Nat.zero_mul,Nat.zero_add];rw[List.set_append_left _ _ CR]
 |d::css,i+1,c,u,hk,h=>by
  have hd:=hk d C0;simp only[List.set_cons_succ,List.flatten_cons];rw[setc_flat hj css i c (fun c hc=>hk c (by simp[hc])) D5,List.set_append_right _ _ (by rw[hd,Nat.succ_mul];omega),hd];congr 2;rw[Nat.succ_mul];omega
theorem aG{w:World}{g:Nat}{cs:Array Value}{T:TypeId}{fr:Nat×Nat}(h:w.heap[g]? =some (.cells cs T fr))(o:Nat)(u:Value):(w.setCell ⟨g,o,none⟩ u).heap[g]? =some (.cells (cs.setIfInBounds o u) T fr):=by
 unfold World.setCell;simp[Array.getElem?_modify,h]
theorem Gro.setc{α:Type}{k:Nat}{T:TypeId}{enc:(Nat->Prop)->World->α->List Value->Prop}{B:Nat}{l:List α}{css:List (List Value)}{w:World}{g cap n i j:Nat}{x y:α}{c:List Value}{u:Value}(he:cF enc)
  (h:Gro k T enc B l css (.slice (some ⟨g,0,none⟩) n cap) w) (hx:l[i]? =some x) (hc:css[i]? =some c) (hj:j<k)
  (hy:∀N W,enc N W x c->enc N W y (c.set j u)):Gro k T enc B (l.set i y) (css.set i (c.set j u)) (.slice (some ⟨g,0,none⟩) n cap) (w.setCell ⟨g,i*k+j,none⟩ u):=by
 have hm:aM (offN B (.slice (some ⟨g,0,none⟩) n cap)) w (offN B (.slice (some ⟨g,0,none⟩) n cap)) (w.setCell ⟨g,i*k+j,none⟩ u):=fun b hb jM=>by
  refine⟨hb,fun o z hz=>?_⟩;have kQ:b≠g:=fun e=>hb.2 (by rw[e];rfl);exact(Off.setCell (S:=fun b=>b=g) w rfl).cell kQ hz
 obtain⟨h1,h2⟩:=h.own;have hi:=(Yb.1 hc).1;refine⟨⟨?_,?_⟩,by simp[h.len],fun d hd=>?_,fun a z d hz hd=>?_,by simpa using h.big⟩
 ·rw[setc_flat hj css i c h.ks hc,List.length_set,h1,List.length_set]
 ·rcases h2 with⟨h2,-⟩|⟨g',cap',cur,hv,hg,qS,r1,r2,r3,r4⟩
  ·cases h2
  cases hv;refine .inr ⟨g,cap,cur.setIfInBounds (i*k+j) u,by rw[List.length_set],hg,aG qS _ u,by rw[List.length_set];exact r1,r2,by simpa using r3,?_⟩;rw[setc_flat hj css i c h.ks hc,<-r4,Array.toList_setIfInBounds,List.length_set,List.take_set]
 ·rcases List.mem_or_eq_of_mem_set hd with hd|rfl
  ·exact h.ks d hd
  rw[List.length_set];exact h.ks c (List.mem_of_getElem? hc)
 by_cases ha:a=i
 ·subst ha;have hil:a<l.length:=by rw[<-h.len];exact hi
  rw[List.getElem?_set_self hil] at hz;rw[List.getElem?_set_self hi] at hd;cases hz;cases hd;exact hy _ _ (he _ _ _ _ _ _ hm (h.enc a x c hx hc))
 rw[List.getElem?_set_ne (fun e=>ha e.symm)] at hz hd;exact he _ _ _ _ _ _ hm (h.enc a z d hz hd)
def Rgs(B:Nat)(l:List Rng)(v:Value)(w:World):Prop:=Gro 6 115 aW B l (l.map eD) v w
theorem Rgs.later{B:Nat}{l:List Rng}{v:Value}{w w':World}(h:Rgs B l v w)(hb:Below w.heap.size w w'):Rgs B l v w':=Gro.later aS h hb
theorem Rgs.row{B:Nat}{l:List Rng}{v:Value}{w:World}(h:Rgs B l v w):aK 6 aW (cP B) w v l:=Gro.row aS h
theorem Rgs.at1{l:List Rng}{i:Nat}{x:Rng}(hx:l[i]? =some x):(l.map eD)[i]? =some (eD x):=by simp[hx]
theorem enc_rng{N:Nat->Prop}{w:World}(r:Rng):aW N w r (eD r):=rfl
theorem Rgs.hi{B:Nat}{l:List Rng}{w:World}{g n cap i:Nat}{x:Rng}(h:Rgs B l (.slice (some ⟨g,0,none⟩) n cap) w)(hx:l[i]? =some x)(v:Ver):
  Rgs B (l.set i ⟨x.lo,v⟩) (.slice (some ⟨g,0,none⟩) n cap) (((w.setCell ⟨g,i*6+3,none⟩ (.int .i64 v.a)).setCell ⟨g,i*6+4,none⟩ (.int .i64 v.b)).setCell ⟨g,i*6+5,none⟩ (.int .i64 v.c)):=by
 have hi:=(Yb.1 hx).1;obtain⟨lo,hh⟩:=x;have h1:=Gro.setc (j:=3) (u:=.int .i64 v.a) (y:=(⟨lo,⟨v.a,hh.b,hh.c⟩⟩:Rng)) aS h hx (Rgs.at1 hx) CX (fun N W e=>rfl);have h2:=Gro.setc (j:=4) (u:=.int .i64 v.b) (y:=(⟨lo,⟨v.a,v.b,hh.c⟩⟩:Rng)) aS h1 (List.getElem?_set_self hi) (List.getElem?_set_self E6) CX (fun N W e=>rfl);have h3:=Gro.setc (j:=5) (u:=.int .i64 v.c) (y:=(⟨lo,v⟩:Rng)) aS h2 (List.getElem?_set_self E6) (List.getElem?_set_self E6) CX (fun N W e=>rfl);unfold Rgs;simp only[List.set_set] at h3;rw[List.map_set];exact h3
theorem Rgs.lo{B:Nat}{l:List Rng}{w:World}{g n cap i:Nat}{x:Rng}(h:Rgs B l (.slice (some ⟨g,0,none⟩) n cap) w)(hx:l[i]? =some x)(v:Ver):
  Rgs B (l.set i ⟨v,x.hi⟩) (.slice (some ⟨g,0,none⟩) n cap) (((w.setCell ⟨g,i*6+0,none⟩ (.int .i64 v.a)).setCell ⟨g,i*6+1,none⟩ (.int .i64 v.b)).setCell ⟨g,i*6+2,none⟩ (.int .i64 v.c)):=by
 have hi:=(Yb.1 hx).1;obtain⟨lo,hh⟩:=x;have h1:=Gro.setc (j:=0) (u:=.int .i64 v.a) (y:=(⟨⟨v.a,lo.b,lo.c⟩,hh⟩:Rng)) aS h hx (Rgs.at1 hx) CX (fun N W e=>rfl);have h2:=Gro.setc (j:=1) (u:=.int .i64 v.b) (y:=(⟨⟨v.a,v.b,lo.c⟩,hh⟩:Rng)) aS h1 (List.getElem?_set_self hi) (List.getElem?_set_self E6) CX (fun N W e=>rfl);have h3:=Gro.setc (j:=2) (u:=.int .i64 v.c) (y:=(⟨v,hh⟩:Rng)) aS h2 (List.getElem?_set_self E6) (List.getElem?_set_self E6) CX (fun N W e=>rfl);unfold Rgs;simp only[List.set_set] at h3;rw[List.map_set];exact h3
theorem Rgs.put{B:Nat}{l:List Rng}{w:World}{g n cap i:Nat}(h:Rgs B l (.slice (some ⟨g,0,none⟩) n cap) w)(hi:i<l.length)(r:Rng):
  Rgs B (l.set i r) (.slice (some ⟨g,0,none⟩) n cap) ((((((w.setCell ⟨g,i*6,none⟩ (.int .i64 r.lo.a)).setCell ⟨g,i*6+1,none⟩ (.int .i64 r.lo.b)).setCell ⟨g,i*6+2,none⟩ (.int .i64 r.lo.c)).setCell ⟨g,i*6+3,none⟩ (.int .i64 r.hi.a)).setCell ⟨g,i*6+4,none⟩ (.int .i64 r.hi.b)).setCell ⟨g,i*6+5,none⟩ (.int .i64 r.hi.c)):=by
 have h1:=(h.lo (List.getElem?_eq_getElem hi) r.lo).hi (List.getElem?_set_self hi) r.hi;rw[List.set_set] at h1;exact h1
theorem Rgs.firstAt{B:Nat}{l:List Rng}{w w':World}{g n cap i:Nat}(h:Rgs B l (.slice (some ⟨g,0,none⟩) n cap) w)(hi:i<=l.length)(hs:w.heap.size<=w'.heap.size)
  (hw:∀cur T,w.heap[g]? =some (.cells cur T)->∃cur',w'.heap[g]? =some (.cells cur' T)/\cur'.size=cur.size/\cur'.toList.take (i*6)=cur.toList.take (i*6)):Rgs B (l.take i) (.slice (some ⟨g,0,none⟩) i cap) w':=by
 obtain⟨h1,h2⟩:=Gro.own h;have hl:(l.take i).length=i:=EX
 have hfl:∀l:List Rng,(l.map eD).flatten.length=l.length*6:=fun l=>by
  induction l with
  |nil=>rfl
  |cons x l ih=>simp[eD] at ih ⊢;omega
 have htk:((l.take i).map eD).flatten=(l.map eD).flatten.take (i*6):=by
  have e:l.map eD=(l.take i).map eD++(l.drop i).map eD:=by rw[<-List.map_append,List.take_append_drop]
  rw[e,List.flatten_append,List.take_left' (by rw[hfl,hl])]
 refine⟨⟨by rw[hl,hfl,hl],?_⟩,C0,fun c hc=>?_,fun a z c hz hc=>?_,Nat.le_trans (Gro.big h) hs⟩
 ·rcases h2 with⟨h2,-⟩|⟨g',cap',cur,hv,hg,qS,r1,r2,r3,r4⟩
  ·cases h2
  cases hv;obtain⟨cur',k1,k2,k3⟩:=hw _ _ qS;refine .inr ⟨g,cap,cur',by rw[hl],hg,k1,CR,r2,by rw[k2];exact r3,?_⟩;rw[htk,<-r4,List.take_take,List.length_take];have:i*6<=l.length*6:=Nat.mul_le_mul_right 6 hi;rw[show min i l.length*6=i*6 by congr 1;omega,k3];congr 1;omega
 ·obtain⟨x,-,rfl⟩:=List.mem_map.1 hc;rfl
 rw[List.getElem?_map] at hc;rw[hz] at hc;cases hc;rfl
theorem setCells_blk{g:Nat}{T:TypeId}:∀(vs:List Value)(o:Nat)(w:World)(cur:Array Value),w.heap[g]? =some (.cells cur T)->
  ∃cur',(w.setCells g o vs).heap[g]? =some (.cells cur' T)/\cur'.size=cur.size/\cur'.toList.take o=cur.toList.take o
 |[],o,w,cur,h=>⟨cur,h,rfl,rfl⟩
 |v::r,o,w,cur,h=>by
  have h1:(w.setCell ⟨g,o,none⟩ v).heap[g]? =some (.cells (cur.setIfInBounds o v) T):=aG h o v;obtain⟨cur',k1,k2,k3⟩:=setCells_blk r (o+1) _ _ h1;refine⟨cur',k1,by rw[k2];simp,?_⟩;have:cur'.toList.take o=(cur'.toList.take (o+1)).take o:=by rw[List.take_take];congr 1;omega
  rw[this,k3,List.take_take,Array.toList_setIfInBounds,show min o (o+1)=o by omega,List.take_set_of_le (Nat.le_refl _)]
theorem gN{B g:Nat}(hB:B<=g):∀(vs:List Value)(o:Nat)(a w:World),Below B a w->Below B a (w.setCells g o vs)
 |[],_,_,_,h=>h
 |v::r,o,a,w,h=>gN hB r (o+1) a _ (h.setCell hB v)
theorem Rgs.cut{B:Nat}{l:List Rng}{w:World}{g n cap i:Nat}(h:Rgs B l (.slice (some ⟨g,0,none⟩) n cap) w)(hi:i<=l.length)(vs:List Value):Rgs B (l.take i) (.slice (some ⟨g,0,none⟩) i cap) (w.setCells g (i*6) vs):=
 h.firstAt hi (gN (B:=0) (Nat.zero_le _) vs (i*6) w w (Below.refl _ _)).size (fun cur T hc=>setCells_blk vs (i*6) w cur hc)
theorem run_clear_k{P:Program}(w:World)(t e ty:TypeId)(z u:Value)(k:Nat)(ht:P.underlying t=some (.slice e))(hv:∀w,(zeroValue e).run P w=.ok z w)(hz:z.cells=Array.replicate k u)(h1:u.oneCell'=true)(b o n c:Nat)(hn:0<n)
  (hc:∀j,j<n*k->(w.cell? ⟨b,o+j,none⟩).isSome=true) (hf:∀j,j<n*k->w.frozen? ⟨b,o+j,none⟩=false):
  (Builtin.clear_ #[t] ty #[.slice (some ⟨b,o,none⟩) n c]).run P w=.ok (.tuple #[]) (w.setCells b o (List.replicate (n*k) u)):=by
 have hzc:(Builtin.zeroCells z.cells n).toList=List.replicate (n*k) u:=by
  rw[hz];simp[Builtin.zeroCells];apply List.ext_getElem
  ·simp
  intro i h1 h2
  have hk:0<k:=by
   rcases Nat.eq_zero_or_pos k with h|h
   ·subst h;simp at h2
   exact h
  have:=Nat.mod_lt i hk;simp[getElem!_pos,this]
 have hst:=run_storeCells_cells (P:=P) b o (List.replicate (n*k) u) 0 w (by simpa using hc) (by simpa using hf) (by intro v hv';rw[List.eq_of_mem_replicate hv'];exact h1);simp only[Nat.add_zero] at hst;obtain⟨m,rfl⟩:∃m,n=m+1:=⟨n-1,CR⟩;simp[Builtin.clear_,run_underlying ht,hv,hzc,hst]
end Go.Proofs.YtmpopphjaggeoaaGreatDoor
namespace Go.Proofs.YtmpopphjaggeoaaGreatDoor
open Go.RowKit Go.Shelf
def cE(r:Rng):Bool:=decide (0<=bB r.lo r.hi)
theorem norm1_any(r:Rng)(w:World):Calls Tryz.prog 185 #[.agg #[.int .i64 r.lo.a,.int .i64 r.lo.b,.int .i64 r.lo.c,.int .i64 r.hi.a,.int .i64 r.hi.b,.int .i64 r.hi.c]] w fun e w'=>e=.returned (.bool (cE r))/\Gw w w':=by
 have HC:=zh (fun W=>fS r.lo r.hi W);have HE:Hid (cE r=decide (0<=bB r.lo r.hi)):=zh rfl;obtain⟨⟨x0,x1,x2,x3,x4,x5⟩,-⟩:=bx6 (bY w (.cells #[.int .i64 r.lo.a,.int .i64 r.lo.b,.int .i64 r.lo.c,.int .i64 r.hi.a,.int .i64 r.hi.b,.int .i64 r.hi.c] 115));generalize cE r=z at HE ⊢;generalize bB r.lo r.hi=c at HC HE;go_enter Tryz.func185,Tryz.ntmps185;go_wp2_with(go_at_call 21;refine(HC.out _).mono ?_;rintro e w1 ⟨rfl,pJ⟩);go_ret;exact⟨aF HE.out.symm,((Gw.refl w).alloc _).trans pJ⟩
theorem norm2_any(r q:Rng)(w:World):Calls Tryz.prog 187 #[.agg #[.int .i64 r.lo.a,.int .i64 r.lo.b,.int .i64 r.lo.c,.int .i64 r.hi.a,.int .i64 r.hi.b,.int .i64 r.hi.c],.agg #[.int .i64 q.lo.a,.int .i64 q.lo.b,.int .i64 q.lo.c,.int .i64 q.hi.a,.int .i64 q.hi.b,.int .i64 q.hi.c]] w fun e w'=>e=.returned (.int .i64 (bB r.lo q.lo))/\Gw w w':=by
 have HC:=zh (fun W=>fS r.lo q.lo W);have lF:(w.alloc (.cells #[.int .i64 r.lo.a,.int .i64 r.lo.b,.int .i64 r.lo.c,.int .i64 r.hi.a,.int .i64 r.hi.b,.int .i64 r.hi.c] 115)).heap.size=w.heap.size+1:=C0;have qE:=bY (w.alloc (.cells #[.int .i64 r.lo.a,.int .i64 r.lo.b,.int .i64 r.lo.c,.int .i64 r.hi.a,.int .i64 r.hi.b,.int .i64 r.hi.c] 115)) (.cells #[.int .i64 q.lo.a,.int .i64 q.lo.b,.int .i64 q.lo.c,.int .i64 q.hi.a,.int .i64 q.hi.b,.int .i64 q.hi.c] 115);rw[lF] at qE;obtain⟨⟨x0,x1,x2,x3,x4,x5⟩,-⟩:=bx6 (aC (aB (w.alloc (.cells #[.int .i64 r.lo.a,.int .i64 r.lo.b,.int .i64 r.lo.c,.int .i64 r.hi.a,.int .i64 r.hi.b,.int .i64 r.hi.c] 115)) (.cells #[.int .i64 q.lo.a,.int .i64 q.lo.b,.int .i64 q.lo.c,.int .i64 q.hi.a,.int .i64 q.hi.b,.int .i64 q.hi.c] 115)) (bY w (.cells #[.int .i64 r.lo.a,.int .i64 r.lo.b,.int .i64 r.lo.c,.int .i64 r.hi.a,.int .i64 r.hi.b,.int .i64 r.hi.c] 115)));obtain⟨⟨y0,y1,y2,y3,y4,y5⟩,-⟩:=bx6 qE;clear qE;go_enter Tryz.func187,Tryz.ntmps187;go_wp2_with(go_at_call 21;refine(HC.out _).mono ?_;rintro e w1 ⟨rfl,pJ⟩);go_ret;exact⟨rfl,(((Gw.refl w).alloc _).alloc _).trans pJ⟩
theorem Rgs.froz{B:Nat}{l:List Rng}{w:World}{g n cap:Nat}(h:Rgs B l (.slice (some ⟨g,0,none⟩) n cap) w)(o:Nat):w.frozen? ⟨g,o,none⟩=false:=by
 obtain⟨h1,h2⟩:=Gro.own h;rcases h2 with⟨h2,-⟩|⟨g',cap',cur,hv,hg,qS,r1,r2,r3,r4⟩
 ·cases h2
 cases hv;simp[World.frozen?,qS]
theorem Rgs.cell{B:Nat}{l:List Rng}{w:World}{g n cap i:Nat}{x:Rng}(h:Rgs B l (.slice (some ⟨g,0,none⟩) n cap) w)(hx:l[i]? =some x):
  w.cell? ⟨g,i*6,none⟩=some (.int .i64 x.lo.a)/\w.cell? ⟨g,i*6+1,none⟩=some (.int .i64 x.lo.b)/\w.cell? ⟨g,i*6+2,none⟩=some (.int .i64 x.lo.c)/\
  w.cell? ⟨g,i*6+3,none⟩=some (.int .i64 x.hi.a)/\w.cell? ⟨g,i*6+4,none⟩=some (.int .i64 x.hi.b)/\w.cell? ⟨g,i*6+5,none⟩=some (.int .i64 x.hi.c):=by
 obtain⟨a,c,hv,h1,h2,h3⟩:=h.row;have kQ:l≠[]:=fun e=>by rw[e] at hx;simp at hx
 obtain⟨b,o,ha,hn,hc⟩:=h3 kQ;cases hv;cases ha;obtain⟨cs,e,hl,hj⟩:=hc i x hx;cases e;simp only[Nat.zero_add] at hj;exact⟨hj 0 _ rfl,hj 1 _ rfl,hj 2 _ rfl,hj 3 _ rfl,hj 4 _ rfl,hj 5 _ rfl⟩
theorem del_any(l:List Rng){B:Nat}{v:Value}{w:World}(h:Rgs B l v w)(hl:l.length<=140737488355328):
  Calls Tryz.prog 183 #[v,.func (.func 185) #[] #[]] w fun e w'=>∃l' v',e=.returned v'/\Rgs B l' v' w'/\(∀B',B'<=B->B'<=w.heap.size->Below B' w w')/\
   ((∀r∈l,cE r=false)->l'=l)/\((¬∀r∈l,cE r=false)->l'.length<l.length):=by
 have tY:TestsN Tryz.prog 185 #[] 6 aW (cP B) cE l w:=fun x _ W cs _ hx _=>by
  cases hx;exact(norm1_any x W).mono fun e w' ⟨h1,h2⟩=>⟨h1,h2.below⟩
 have HI:=zh (idx_rng cE 185 #[] (enters_of Tryz.func185 CQ rfl) h.row tY);have HH:=zh h
 cases hf:l.findIdx? cE with
 |none=>
  have oC:∀r∈l,cE r=false:=fun r hr=>by
   rw[List.findIdx?_eq_none_iff] at hf;exact hf r hr
  rw[show fQ cE l= -1 from idxOf_none hf] at HI;have HA:=zh oC;clear hf oC tY h;go_enter Tryz.func183,Tryz.ntmps183;go_wp2_with(go_at_call 173;refine HI.out.mono ?_;rintro e w1 ⟨rfl,kK⟩);go_ret;exact⟨l,v,rfl,HH.out.later kK,fun B' h1 h2=>kK.mono h2,fun _=>rfl,fun hn=>absurd HA.out hn⟩
 |some k0=>
  rw[show fQ cE l=(k0:Int) from idxOf_some hf] at HI;obtain⟨nN,qH,-⟩:=List.findIdx?_eq_some_iff_getElem.1 hf;have HN:Hid (¬∀r∈l,cE r=false):=zh (fun hn=>by have:=hn _ (List.getElem_mem nN);rw[qH] at this;cases this);rcases Gro.val h with⟨rfl,e0⟩|⟨g,cap,rfl,pJ,oB⟩
  ·rw[e0] at nN;simp at nN
  have hne1:((k0:Int)== -1)=false:=beq_eq_false_iff_ne.2 CR;have hw0:IntKind.i64.wrap ((k0:Int)+1)=(k0:Int)+1:=bN CR CR;have HP:=zh (fun(x:Rng)W=>norm1_any x W);clear hf qH tY h;go_enter Tryz.func183,Tryz.ntmps183;go_wp2_with(go_at_call 173;refine HI.out.mono ?_;rintro e w1 ⟨rfl,kK⟩);have HW1:=zh kK;clear kK;go_loopw [5,6,7] (fun iv jv bv wr=>∃(i j:Nat)(d:List Rng),iv=.int .i64 (i:Int)/\jv=.int .i64 (j:Int)/\i<j/\j<=l.length/\d.length=l.length/\Hid (Rgs B d (.slice (some ⟨g,0,none⟩) l.length cap) wr)/\Hid (∀B',B'<=B->B'<=w.heap.size->Below B' w wr)) (fun _ jv _ _=>l.length-(intOf jv).toNat)
  case atStart=>exact⟨k0,k0+1,l,rfl,C5,CR,CR,rfl,zh (HH.out.later HW1.out),zh (fun B' h1 h2=>HW1.out.mono h2)⟩
  case round=>
   obtain⟨i,j,d,rfl,rfl,vQ,hj,hd,HD,HW⟩:=hrel;(rename World=>wr);by_cases jM:j<l.length
   ·obtain⟨q,hq,-⟩:=getElem?_of_lt (show j<d.length by omega);obtain⟨c0,c1,c2,c3,c4,c5⟩:=HD.out.cell hq;have uA:(0:Int)<=(j:Int)/\(j:Int)<(l.length:Int):=CR;have oN:(0:Int)<=(i:Int)/\(i:Int)<(l.length:Int):=CR;have HB:=zh (bY wr (.cells #[.int .i64 q.lo.a,.int .i64 q.lo.b,.int .i64 q.lo.c,.int .i64 q.hi.a,.int .i64 q.hi.b,.int .i64 q.hi.c] 115));have HA:=zh (aB wr (.cells #[.int .i64 q.lo.a,.int .i64 q.lo.b,.int .i64 q.lo.c,.int .i64 q.hi.a,.int .i64 q.hi.b,.int .i64 q.hi.c] 115));have HPq:=HP.out q
    cases he:cE q with
    |true=>
     rw[he] at HPq;clear he;go_wp2_with fail;refine(HPq _).mono ?_;rintro e w2 ⟨rfl,oB⟩;have HT:=zh (aA HA.out oB.below);clear oB c0 c1 c2 c3 c4 c5 HB HA;go_wp2_with fail;go_roundw;(case rel=>exact⟨i,j+1,d,rfl,C5,CR,CR,hd,zh (HD.out.later HT.out),zh (fun B' h1 h2=>(HW.out B' h1 h2).trans (HT.out.mono (Nat.le_trans h2 (HW.out B' h1 h2).size)))⟩);case measure=>simp[intOf];omega
    |false=>
     rw[he] at HPq;clear he;go_wp2_with fail;refine(HPq _).mono ?_;rintro e w2 ⟨rfl,oB⟩;have HT:=zh (aA HA.out oB.below);obtain⟨⟨x0,x1,x2,x3,x4,x5⟩,-⟩:=bx6 (aC oB.below HB.out);have kY:=zh (HD.out.later HT.out);obtain⟨q2,qK,-⟩:=getElem?_of_lt (show i<d.length by omega);obtain⟨y0,y1,y2,y3,y4,y5⟩:=kY.out.cell qK;have f0:=kY.out.froz
     have kQ:¬wr.heap.size=g:=by
      have:=HD.out.row;have h1:=cV c0;omega
     have HP3:=zh (kY.out.put (show i<d.length by omega) q);have hwi:IntKind.i64.wrap ((i:Int)+1)=(i:Int)+1:=bN CR CR;clear oB c0 c1 c2 c3 c4 c5 HB HA qK hq;go_wp2_with fail;go_roundw;(case rel=>exact⟨i+1,j+1,d.set i q,C5,C5,CR,CR,by simp[hd],HP3,zh (fun B' h1 h2=>have hBg:B'<=g:=Nat.le_trans h1 pJ;Below.setCell (Below.setCell (Below.setCell (Below.setCell (Below.setCell (Below.setCell ((HW.out B' h1 h2).trans (HT.out.mono (Nat.le_trans h2 (HW.out B' h1 h2).size))) hBg _) hBg _) hBg _) hBg _) hBg _) hBg _)⟩);case measure=>simp[intOf];omega
   have hgw:g<wr.heap.size:=by
    have:=(HW.out 0 (Nat.zero_le _) (Nat.zero_le _)).size;omega
   have kP:∀t,t<(l.length-i)*6->(wr.cell? ⟨g,i*6+t,none⟩).isSome=true:=fun t ht=>by
    have h1:t / 6<l.length-i:=CR;obtain⟨x,hx,-⟩:=getElem?_of_lt (show i+t / 6<d.length by omega);obtain⟨c0,c1,c2,c3,c4,c5⟩:=HD.out.cell hx;have h6:t % 6<6:=Nat.mod_lt _ CX;have e:i*6+t=(i+t / 6)*6+t % 6:=CR;rw[e];generalize t % 6=m at h6
    match m,h6 with
    |0,_=>rw[Nat.add_zero,c0];rfl
    |1,_=>rw[c1];rfl
    |2,_=>rw[c2];rfl
    |3,_=>rw[c3];rfl
    |4,_=>rw[c4];rfl
    |5,_=>rw[c5];rfl
   have rN:∀ty,(Builtin.clear_ #[29] ty #[.slice (some ⟨g,i*6,none⟩) (l.length-i) (cap-i)]).run Tryz.prog wr=.ok (.tuple #[]) (wr.setCells g (i*6) (List.replicate ((l.length-i)*6) (.int .i64 0))):=
    fun ty=>run_clear_k wr _ _ ty _ (.int .i64 0) 6 Tryz.underlying29 Tryz.zeroValue115 CQ CQ g (i*6) _ _ CR kP (fun t ht=>HD.out.froz _)
   have HC:=zh (HD.out.cut (show i<=d.length by omega) (List.replicate ((l.length-i)*6) (.int .i64 0)));have vY:=zh (fun B'(h1:B'<=B)h2=>gN (g:=g) (show B'<=g by omega) (List.replicate ((l.length-i)*6) (.int .i64 0)) (i*6) w wr (HW.out B' h1 h2))
   have tO:l.length<=cap:=by
    obtain⟨-,hv⟩:=Gro.own HD.out;rcases hv with⟨hv,-⟩|⟨g',cap',cur,hv,_,_,r1,_,_,_⟩
    ·cases hv
    (injection hv with e1 e2 e3);omega
   have sC:(i:Int)<=(l.length:Int):=CR;have tP:(i:Int)<=(cap:Int):=CR;have hl3:(l.length:Int)<=(cap:Int):=CR;clear kP;generalize wr.setCells g (i*6) (List.replicate ((l.length-i)*6) (.int .i64 0))=w9 at *;go_wp2_with fail;go_ret;exact⟨d.take i,_,rfl,HC.out,vY.out,fun hn=>absurd hn HN.out,fun _=>EX⟩
end Go.Proofs.YtmpopphjaggeoaaGreatDoor
namespace Go.Proofs.YtmpopphjaggeoaaGreatDoor
open Go.RowKit Go.Shelf Go.Sort
theorem cmpI_lt(x y:Int):cmpI x y<0↔x<y:=FF
theorem iJ(x y:Int):cmpI x y=0↔x=y:=FF
theorem cmpV_lt(v u:Ver):bB v u<0↔v.a<u.a\/v.a=u.a/\(v.b<u.b\/v.b=u.b/\v.c<u.c):=by
 unfold bB;have h1:=iJ v.a u.a;have h2:=iJ v.b u.b;have k1:=cmpI_lt v.a u.a;have k2:=cmpI_lt v.b u.b;have k3:=cmpI_lt v.c u.c;by_cases a:cmpI v.a u.a=0
 ·rw[if_neg (by simp[a])];by_cases b:cmpI v.b u.b=0
  ·rw[if_neg (by simp[b])];rw[k3];have:=h1.1 a;have:=h2.1 b;omega
  rw[if_pos b,k2];have:=h1.1 a;have:¬v.b=u.b:=fun e=>b (h2.2 e);omega
 rw[if_pos a,k1];have:¬v.a=u.a:=fun e=>a (h1.2 e);omega
theorem cmpV_zero(v u:Ver):bB v u=0↔v=u:=by
 unfold bB;have h1:=iJ v.a u.a;have h2:=iJ v.b u.b;have h3:=iJ v.c u.c;have e:v=u↔v.a=u.a/\v.b=u.b/\v.c=u.c:=by cases v;cases u;simp
 rw[e];by_cases a:cmpI v.a u.a=0
 ·rw[if_neg (by simp[a])];by_cases b:cmpI v.b u.b=0
  ·rw[if_neg (by simp[b])];rw[h3];have:=h1.1 a;have:=h2.1 b;omega
  rw[if_pos b];have:¬v.b=u.b:=fun e=>b (h2.2 e);omega
 rw[if_pos a];have:¬v.a=u.a:=fun e=>a (h1.2 e);omega
theorem cmpV_swap(v u:Ver):0<bB v u↔bB u v<0:=by
 have h:=cmpV_lt v u;have k:=cmpV_lt u v;have z:=cmpV_zero v u;have e:v=u↔v.a=u.a/\v.b=u.b/\v.c=u.c:=by cases v;cases u;simp
 rw[e] at z;constructor
 ·intro hp;rw[k];have n1:¬bB v u<0:=CR;have n2:¬bB v u=0:=CR;rw[h] at n1;rw[z] at n2;omega
 intro hp;rw[k] at hp;have n1:¬bB v u<0:=by rw[h];omega
 have n2:¬bB v u=0:=by rw[z];omega
 omega
theorem cmpV_trans{v u t:Ver}(h:bB v u<0)(k:bB u t<0):bB v t<0:=by
 rw[cmpV_lt] at *;omega
theorem swo_ver{α:Type}(f:α->Ver):SWO (ltOf fun x y:α=>bB (f x) (f y)) where
 irrefl x:=by simp[ltOf,cmpV_lt]
 trans x y z h1 h2:=by simp only[ltOf,decide_eq_true_eq] at *;exact cmpV_trans h1 h2
 ntrans x y z h1 h2:=by simp only[ltOf,decide_eq_false_iff_not,cmpV_lt] at *;omega
def RowH{α:Type}(enc:α->List Value)(k:Nat)(w:World)(g o:Nat)(l:List α):Prop:=∀i x,l[i]? =some x->∀j u,(enc x)[j]? =some u->w.cell? ⟨g,o+(i*k+j),none⟩=some u/\w.frozen? ⟨g,o+(i*k+j),none⟩=false
theorem RowH.holds{α:Type}[Inhabited α]{enc:α->List Value}{k:Nat}{w:World}{g o:Nat}{l:List α}(hk:∀x,(enc x).length=k)(h:RowH enc k w g o l):HoldsK enc k w g o l.toArray:=by
 intro t ht;have ht':t<l.length*k:=by simpa using ht
 have k0:0<k:=by
  rcases Nat.eq_zero_or_pos k with h|h
  ·subst h;simp at ht'
  exact h
 have h1:t / k<l.length:=Nat.div_lt_of_lt_mul (by rwa [Nat.mul_comm] at ht');have h2:=Nat.mod_lt t k0;have hx:l[t / k]? =some l[t / k]:=List.getElem?_eq_getElem h1;have hu:(enc l[t / k])[t % k]? =some ((enc l[t / k])[t % k]'(by rw[hk];exact h2)):=List.getElem?_eq_getElem _;have:=h _ _ hx _ _ hu;rw[show t / k*k+t % k=t from Nat.div_add_mod' t k] at this;rw[get_flatK enc k l.toArray t (by simpa using ht')];have e1:l.toArray[t / k]! =l[t / k]:=by rw[getElem!_pos _ _ (by simpa using h1)];simp
 rw[e1,List.getElem!_eq_getElem?_getD,hu];exact this
theorem RowH.of_holds{α:Type}[Inhabited α]{enc:α->List Value}{k:Nat}{w:World}{g o:Nat}{d:Array α}(hk:∀x,(enc x).length=k)(h:HoldsK enc k w g o d):RowH enc k w g o d.toList:=by
 intro i x hx j u hu;have hj:j<k:=by rw[<-hk x];exact(Yb.1 hu).1
 have hi:i<d.size:=by have:=(Yb.1 hx).1;simpa using this
 have ht:i*k+j<d.size*k:=by
  have:(i+1)*k<=d.size*k:=Nat.mul_le_mul_right _ hi;rw[Nat.succ_mul] at this;omega
 have:=h (i*k+j) (by simpa using ht);rw[get_flatK enc k d _ ht] at this;have k0:0<k:=CR;have e1:(i*k+j) / k=i:=by rw[Nat.mul_comm,Nat.mul_add_div k0,Nat.div_eq_of_lt hj];simp
 have e2:(i*k+j) % k=j:=by rw[Nat.mul_comm,Nat.mul_add_mod,Nat.mod_eq_of_lt hj]
 have e3:d[i]! =x:=by
  rw[getElem!_pos d i hi];have:=(Yb.1 hx).2;simpa using this
 rw[e1,e2,e3,List.getElem!_eq_getElem?_getD,hu] at this;exact this
theorem below_sortK{α:Type}[Inhabited α]{enc:α->List Value}{k:Nat}{w:World}{B g o n:Nat}{d:Array α}{os:Array Obj}(hB:B<=g):Below B w (sortWorldK enc k w g o n d os)\/w.heap.size<B:=by
 rcases Nat.lt_or_ge w.heap.size B with h|h
 ·exact .inr h
 refine .inl ⟨rfl,rfl,rfl,?_,fun b hb=>?_⟩
 ·simp[sortWorldK,Sort.grow,putRowK,Sort.putRow,Sort.mapBlock,Sort.ahead]
 unfold sortWorldK;rw[Sort.heap_grow_old _ _ (by simp[putRowK,Sort.putRow,Sort.mapBlock,Sort.ahead];omega)];simp[putRowK,Sort.putRow,Sort.mapBlock,Sort.ahead,Array.getElem?_modify,show g≠b by omega]
theorem perm_all{α:Type}[Inhabited α]{d d':Array α}(h:PermIn 0 d.size d d'):d'.toList.Perm d.toList:=by
 obtain⟨h1,-,h3⟩:=h;rw[Array.extract_eq_self_of_le CR,Array.extract_eq_self_of_le (Nat.le_refl _)] at h3;exact h3
theorem sort_rng(l:List Rng)(B g cap:Nat)(w:World)(hH:RowH eD 6 w g 0 l)(hg:g<w.heap.size)(hB:B<=g)(hl:l.length<=140737488355328):
  Calls Tryz.prog 186 #[.slice (some ⟨g,0,none⟩) l.length cap,.func (.func 187) #[] #[]] w fun e w'=>e=.returned (.tuple #[])/\Below B w w'/\
   ∃l':List Rng,l'.Perm l/\(∀(i j:Nat)(x y:Rng),i<j->l'[i]? =some x->l'[j]? =some y->0<=bB (y.lo) (x.lo))/\RowH eD 6 w' g 0 l':=by
 have h:=Tryz.slices_SortFunc_f186 6 Tryz.isAgg115 Tryz.sizeOf115 eD (fun _=>rfl) (fun x u hu=>by simp[eD] at hu;rcases hu with rfl|rfl|rfl|rfl|rfl|rfl<;>rfl) (fun x y:Rng=>bB (x.lo) (y.lo)) (swo_ver (fun x:Rng=>x.lo)) 187 #[] g 0 cap l.toArray w
  (enters_of Tryz.func187 CQ rfl) (fun m os dk _ x y=>(norm2_any x y _).mono fun e w' ⟨h1,q,os',h2⟩=>⟨h1,q,os',h2⟩) (hH.holds (fun _=>rfl)) hg DC
 rw[show l.toArray.size=l.length by simp] at h;refine h.mono ?_;rintro e w' ⟨rfl,d',n,os,hp,hs,rfl⟩;refine⟨rfl,(below_sortK hB).resolve_right CR,d'.toList,by have:=perm_all (d:=l.toArray) (d':=d') (by simpa using hp);simpa using this,fun i j x y vQ hx hy=>?_,RowH.of_holds (fun _=>rfl) (holdsK_sortWorldK_c eD 6 w g 0 l.toArray d' n os (hH.holds (fun _=>rfl)) hg (by have:=hp.1;simpa using this))⟩;have hj:=(Yb.1 hy).1;have mO:d'.size=l.length:=by have:=hp.1;simpa using this
 have:=hs i j (Nat.zero_le _) vQ (by rw[<-mO];simpa using hj);have ei:d'[i]! =x:=by rw[getElem!_pos _ _ (by simp at hj;omega)];have:=(Yb.1 hx).2;simpa using this
 have ej:d'[j]! =y:=by rw[getElem!_pos _ _ FM];have:=(Yb.1 hy).2;simpa using this
 rw[ei,ej] at this;simp only[ltOf,decide_eq_false_iff_not] at this;omega
theorem rngInfo:(Tryz.prog.info? 115).map (fun i=>(i.zero,i.size,i.bytes))=some (some (.agg #[.int .i64 0,.int .i64 0,.int .i64 0,.int .i64 0,.int .i64 0,.int .i64 0]),6,48):=CQ
theorem rngs_len(l:List Rng):(l.map eD).flatten.length=l.length*6:=by
 induction l with
 |nil=>rfl
 |cons x l ih=>simp[eD] at ih ⊢;omega
theorem rngs_one(l:List Rng):∀u∈(l.map eD).flatten,u.oneCell'=true:=by
 intro u hu;obtain⟨c,hc,hu⟩:=List.mem_flatten.1 hu;obtain⟨x,-,rfl⟩:=List.mem_map.1 hc;simp[eD] at hu;rcases hu with rfl|rfl|rfl|rfl|rfl|rfl<;>rfl
theorem cloneR_some(ad:Addr)(c:Nat)(l:List Rng)(w:World)(hc:∀j u,(l.map eD).flatten[j]? =some u->w.cell? (ad.add j)=some u)(hl:l.length<=1000000):
  Calls Tryz.prog 184 #[.slice (some ad) l.length c] w fun e w'=>∃v',e=.returned v'/\w'.ownsRow w.heap.size 115 6 v' l.length (l.map eD).flatten/\Below w.heap.size w w':=by
 obtain⟨i0,hi,pY,lF,nO⟩:=info_parts rngInfo;have HC:=zh hc;clear hc;have q22:∀(w:World)(a:Option Addr)(n c n' c':Nat),(binOp .eql 29 (.slice a n c) (.slice none n' c')).run Tryz.prog w=.ok (.bool a.isNone) w:=fun w a n c n' c'=>Lib.run_eql_slice_nil w _ _ a n c n' c' Tryz.underlying29;go_enter Tryz.func184,Tryz.ntmps184;go_wp2_with(at_builtin;refine wpList_append_own _ rfl _ _ 29 rfl w.heap.size 115 i0 (.agg #[.int .i64 0,.int .i64 0,.int .i64 0,.int .i64 0,.int .i64 0,.int .i64 0]) 6 48 Tryz.underlying29 hi pY lF nO rfl CX _ _ _ rfl (World.ownsRow_made w #[] 0 (Nat.le_refl _) (Nat.zero_le _) C0) ad l.length c (l.map eD).flatten rfl (rngs_len l) (fun j u hj=>Lib.cell?_alloc_some _ (HC.out j u hj)) (rngs_one l) DO CR C0 ?_);intro v' w1 jY iP wK;have HO:=zh jY;clear jY wK;have yM:=zh iP;clear iP;go_wp2_with fail;go_ret;refine⟨v',rfl,by simpa using HO.out,?_⟩;exact((Below.refl _ w).alloc (Nat.le_refl _) _).grown yM.out C0 (by intro k hk;simp[Value.ownBlock] at hk;omega)
theorem cloneR_any(l:List Rng){N:Nat->Prop}{v:Value}{w:World}(hv:aK 6 aW N w v l)(hl:l.length<=1000000):
  Calls Tryz.prog 184 #[v] w fun e w'=>∃v',e=.returned v'/\Rgs w.heap.size l v' w'/\Below w.heap.size w w':=by
 have mk:∀v' w',w'.ownsRow w.heap.size 115 6 v' l.length (l.map eD).flatten->Below w.heap.size w w'->Rgs w.heap.size l v' w':=fun v' w' ho hb=>
  ⟨ho,C0,fun c hc=>by obtain⟨x,-,rfl⟩:=List.mem_map.1 hc;rfl,fun i x c hx hc=>by rw[List.getElem?_map,hx] at hc;cases hc;rfl,hb.size⟩
 obtain⟨a,c,rfl,h1,h2,h3⟩:=hv
 cases a with
 |none=>
  have hl0:l=[]:=by
   cases l with
   |nil=>rfl
   |cons x r=>obtain⟨b,o,h,-⟩:=h3 C0;cases h
  subst hl0;refine(Tryz.slices_Clone_nil_f184 0 c w).mono ?_;rintro e w' ⟨rfl,rfl⟩;exact⟨_,rfl,mk _ _ (World.ownsRow_nil _ _ _ _) (Below.refl _ _),Below.refl _ _⟩
 |some ad=>
  refine(cloneR_some ad c l w (fun j u hu=>?_) hl).mono fun e w' ⟨v',h1,h2,h3⟩=>⟨v',h1,mk _ _ h2 h3,h3⟩;have hj:=(Yb.1 hu).1;rw[rngs_len] at hj;have kQ:l≠[]:=fun e=>by rw[e] at hj;simp at hj
  obtain⟨b,o,e,-,hc⟩:=h3 kQ;cases e;have hi:j / 6<l.length:=CR;have hx:l[j / 6]? =some l[j / 6]:=List.getElem?_eq_getElem hi;obtain⟨cs,ec,kU,qA⟩:=hc _ _ hx;cases ec;have hf:=gT (k:=6) (l.map eD) (fun c hc=>by obtain⟨x,-,rfl⟩:=List.mem_map.1 hc;rfl) (j / 6) (eD l[j / 6]) (j % 6) (by rw[List.getElem?_map,hx];rfl) (Nat.mod_lt _ CX);rw[show j / 6*6+j % 6=j by omega,hu] at hf;have:=qA _ _ hf.symm;rw[Addr.add_lit,<-this];congr 2;omega
def aR(out:List Rng)(r:Rng):List Rng:=match out.getLast? with
 |none=>out++[r]
 |some z=>if bB r.lo z.hi<=0 then(if bB z.hi r.hi<0 then out.set (out.length-1) ⟨z.lo,r.hi⟩ else out) else out++[r]
def mergeR(l:List Rng):List Rng:=l.foldl aR []
theorem mergeStep_len(out:List Rng)(r:Rng):(aR out r).length<=out.length+1:=by
 unfold aR;split
 ·simp
 split
 ·split<;>simp
 simp
theorem foldl_len(l:List Rng):∀out,(l.foldl aR out).length<=out.length+l.length:=by
 induction l with
 |nil=>intro out;simp
 |cons x l ih=>intro out;have h1:=ih (aR out x);have h2:=mergeStep_len out x;simp only[List.foldl_cons,List.length_cons];omega
theorem mergeR_len(l:List Rng):(mergeR l).length<=l.length:=by have:=foldl_len l [];simpa[mergeR] using this
theorem merge_next{l:List Rng}{k:Nat}{x:Rng}(h:l[k]? =some x):(l.take (k+1)).foldl aR []=aR ((l.take k).foldl aR []) x:=by
 rw[List.take_add_one,h,List.foldl_append];rfl
theorem norm_any(l:List Rng){N:Nat->Prop}{v:Value}{w:World}(hv:aK 6 aW N w v l)(hl:l.length<=6):
  Calls Tryz.prog 138 #[v] w fun e w'=>∃r v',e=.returned v'/\aK 6 aW (cP w.heap.size) w' v' r/\Below w.heap.size w w'/\r.length<=l.length/\
   ((¬∀x∈l,cE x=false)->r.length<l.length)/\((∀x∈l,cE x=false)->∃l2:List Rng,l2.Perm l/\(∀(i j:Nat)(x y:Rng),i<j->l2[i]? =some x->l2[j]? =some y->0<=bB (y.lo) (x.lo))/\r=mergeR l2):=by
 obtain⟨i0,oN,pY,lF,nO⟩:=info_parts rngInfo;have rH:=zh (cloneR_any l hv CR);have HCm:=zh (fun(a b:Ver)W=>fS a b W);obtain⟨a0,c0,rfl,-⟩:=id hv;clear hv;generalize hn:l.length=n0 at *;have HN:=zh hn;clear hn;go_enter Tryz.func138,Tryz.ntmps138;go_wp2_with fail;refine rH.out.mono ?_;rintro e w1 ⟨v1,rfl,rT,kK⟩;have sM:=zh rT;have jL:=zh kK;clear rT kK rH;go_wp2_with fail;refine(del_any l sM.out (by rw[HN.out];omega)).mono ?_;rintro e w2 ⟨l1,v2,rfl,xL,jP,hy2,pT⟩;have oL:=zh xL;have jF:=zh (jL.out.trans (jP w.heap.size (Nat.le_refl _) jL.out.size));have HY:=zh hy2;have rB:=zh pT
 have hll:l1.length<=n0:=by
  rw[<-HN.out];by_cases hq:∀x∈l,cE x=false
  ·rw[hy2 hq];exact Nat.le_refl _
  have:=pT hq;omega
 clear xL jP hy2 pT sM jL;rcases Gro.val oL.out with⟨rfl,e1⟩|⟨g,cap,rfl,pJ,oB⟩
 ·subst e1;go_wp2_with fail;refine(Tryz.slices_SortFunc_none_f186 (α:=Rng) none 0 _ w2).mono ?_;rintro e w3 ⟨rfl,rfl⟩;go_wp2_with fail;go_loopw [4,15] (fun ov iv wr=>ov=.slice none 0 0/\iv=.int .i64 0/\wr=w3) (fun _ _ _=>0)
  case atStart=>exact⟨rfl,rfl,rfl⟩
  case round=>
   obtain⟨rfl,rfl,rfl⟩:=hrel;go_wp2_with fail;go_ret;refine⟨[],_,rfl,aK.nil _ _ _ _,jF.out,C0,fun h=>?_,fun h=>⟨[],?_,fun i j x y _ hx=>by simp at hx,rfl⟩⟩
   ·have:=rB.out h;rw[HN.out] at this;exact this
   rw[<-HY.out h]
 have hlen1:l1.length<=6:=CR
 have uQ:RowH eD 6 w2 g 0 l1:=fun i x hx j u hu=>by
  obtain⟨c0,c1,c2,c3,c4,c5⟩:=oL.out.cell hx;refine⟨?_,oL.out.froz _⟩;rw[Nat.zero_add]
  match j,hu with
  |0,hu=>cases hu;exact c0
  |1,hu=>cases hu;exact c1
  |2,hu=>cases hu;exact c2
  |3,hu=>cases hu;exact c3
  |4,hu=>cases hu;exact c4
  |5,hu=>cases hu;exact c5
 have rA:=zh (sort_rng l1 w.heap.size g cap w2 uQ oB pJ CR);clear uQ;go_wp2_with fail;refine rA.out.mono ?_;rintro e w3 ⟨rfl,kX,l2,hp,hs,nS⟩;have kH:=zh (jF.out.trans kX);have tP:l2.length=l1.length:=hp.length_eq;have HPm:=zh hp;have HSo:=zh hs;have HRo:=zh nS;clear kX hp hs nS rA
 have lC:Hid (∀r:List Rng,r=mergeR l2->r.length<=n0/\((¬∀x∈l,cE x=false)->r.length<n0)/\((∀x∈l,cE x=false)->∃l2:List Rng,l2.Perm l/\(∀(i j:Nat)(x y:Rng),i<j->l2[i]? =some x->l2[j]? =some y->0<=bB (y.lo) (x.lo))/\r=mergeR l2)):=zh (fun r hr=>by
  have hm:=mergeR_len l2;rw[<-hr] at hm;refine⟨CR,fun h=>?_,fun h=>⟨l2,?_,HSo.out,hr⟩⟩
  ·have:=rB.out h;rw[HN.out] at this;omega
  rw[<-HY.out h];exact HPm.out)
 clear HSo HPm rB HY oL jF;rw[<-tP] at hll hlen1 ⊢;clear tP;go_wp2_with fail;go_loopw [4,15] (fun ov iv wr=>∃k:Nat,k<=l2.length/\iv=.int .i64 (k:Int)/\Hid (Rgs w3.heap.size ((l2.take k).foldl aR []) ov wr)/\Hid (Below w3.heap.size w3 wr)) (fun _ iv _=>l2.length-(intOf iv).toNat)
 case atStart=>exact⟨0,Nat.zero_le _,rfl,zh (Gro.first _ _ _ _),zh (Below.refl _ _)⟩
 case round=>
  obtain⟨k,hk,rfl,HO,HW⟩:=hrel;rename World=>wr
  by_cases jM:k<l2.length
  ·obtain⟨q,hq,-⟩:=getElem?_of_lt jM;have nN:(0:Int)<=(k:Int)/\(k:Int)<(l2.length:Int):=CR;have r0:=aD HW.out (HRo.out k q hq 0 _ rfl).1;have r1:=aD HW.out (HRo.out k q hq 1 _ rfl).1;have r2:=aD HW.out (HRo.out k q hq 2 _ rfl).1;have r3:=aD HW.out (HRo.out k q hq 3 _ rfl).1;have r4:=aD HW.out (HRo.out k q hq 4 _ rfl).1;have r5:=aD HW.out (HRo.out k q hq 5 _ rfl).1;simp only[Nat.zero_add,Nat.add_zero] at r0 r1 r2 r3 r4 r5;have HMn:=zh (merge_next hq)
   have hmo:((l2.take k).foldl aR []).length<=6:=by
    have h1:=mergeR_len (l2.take k);have:(l2.take k).length<=k:=DC;unfold mergeR at h1;omega
   generalize (l2.take k).foldl aR []=m at *;clear hq;have tT:=zh (bY wr (.cells #[.int .i64 q.lo.a,.int .i64 q.lo.b,.int .i64 q.lo.c,.int .i64 q.hi.a,.int .i64 q.hi.b,.int .i64 q.hi.c] 115));have yQ:=zh (aB wr (.cells #[.int .i64 q.lo.a,.int .i64 q.lo.b,.int .i64 q.lo.c,.int .i64 q.hi.a,.int .i64 q.hi.b,.int .i64 q.hi.c] 115));by_cases rE:m=[]
   ·have hov:u4=.slice none 0 0\/∃h c1,u4=.slice (some ⟨h,0,none⟩) 0 c1:=by
     rcases Gro.val HO.out with⟨rfl,-⟩|⟨h,cp,rfl,-,-⟩
     ·exact .inl rfl
     exact .inr ⟨h,cp,by rw[rE];rfl⟩
    subst rE;have vO:Hid ((l2.take (k+1)).foldl aR []=([]:List Rng)++[q]):=zh (by rw[HMn.out];rfl);rcases hov with rfl|⟨h,c1,rfl⟩
    all_goals
     have hw0:IntKind.i64.wrap (0-1)= -1:=rfl;obtain⟨⟨x0,x1,x2,x3,x4,x5⟩,-⟩:=bx6 tT.out;go_wp2_with fail;refine wp_region_held_drew (S:=fun W=>Below ((wr.alloc (.cells #[.int .i64 q.lo.a,.int .i64 q.lo.b,.int .i64 q.lo.c,.int .i64 q.hi.a,.int .i64 q.hi.b,.int .i64 q.hi.c] 115))).heap.size ((wr.alloc (.cells #[.int .i64 q.lo.a,.int .i64 q.lo.b,.int .i64 q.lo.c,.int .i64 q.hi.a,.int .i64 q.hi.b,.int .i64 q.hi.c] 115))) W) CQ (aL _) fun hS=>?_;refine zq 0 (.int .i64 (-1)) rfl ?_;refine zq 1 (.bool false) rfl ?_;refine zq 2 (.bool false) rfl ?_;refine zu 3 rfl ?_;refine zu 4 rfl ?_;refine zu 5 rfl ?_;refine zu 6 rfl ?_;refine zu 7 rfl ?_;refine zu 8 rfl ?_;refine zu 9 rfl ?_;refine zu 10 rfl ?_;refine zu 11 rfl ?_;refine zq 12 (.bool false) rfl ?_;(try simp only[zn]);refine wpAnyH_done CQ ?_ _;have HO8:=zh ((HO.out.later yQ.out).later (aL (wr.alloc (.cells #[.int .i64 q.lo.a,.int .i64 q.lo.b,.int .i64 q.lo.c,.int .i64 q.hi.a,.int .i64 q.hi.b,.int .i64 q.hi.c] 115))));have uO:=zh (aA HW.out (aA yQ.out (aL (wr.alloc (.cells #[.int .i64 q.lo.a,.int .i64 q.lo.b,.int .i64 q.lo.c,.int .i64 q.hi.a,.int .i64 q.hi.b,.int .i64 q.hi.c] 115)))));have pN:=zh (aC (aL (wr.alloc (.cells #[.int .i64 q.lo.a,.int .i64 q.lo.b,.int .i64 q.lo.c,.int .i64 q.hi.a,.int .i64 q.hi.b,.int .i64 q.hi.c] 115))) tT.out);clear hS x0 x1 x2 x3 x4 x5 tT;generalize (wr.alloc (.cells #[.int .i64 q.lo.a,.int .i64 q.lo.b,.int .i64 q.lo.c,.int .i64 q.hi.a,.int .i64 q.hi.b,.int .i64 q.hi.c] 115)).drew=w8 at *;obtain⟨⟨z0,z1,z2,z3,z4,z5⟩,-⟩:=bx6 pN.out;have own8:=Gro.own HO8.out;have hml:([]:List Rng).length<=6:=hmo;have hsz8:=uO.out.size;go_wp2_with(at_builtin;refine wpList_append_lies _ rfl _ _ 29 rfl w3.heap.size 115 i0 (.agg #[.int .i64 0,.int .i64 0,.int .i64 0,.int .i64 0,.int .i64 0,.int .i64 0]) 6 48 Tryz.underlying29 oN pY lF nO rfl CR _ ([]:List Rng).length (([]:List Rng).map eD).flatten D4 (own8.alloc _) ⟨w8.heap.size,0,none⟩ 1 1 [.int .i64 q.lo.a,.int .i64 q.lo.b,.int .i64 q.lo.c,.int .i64 q.hi.a,.int .i64 q.hi.b,.int .i64 q.hi.c] D4 rfl (World.news_of_block (cs:=#[.int .i64 q.lo.a,.int .i64 q.lo.b,.int .i64 q.lo.c,.int .i64 q.hi.a,.int .i64 q.hi.b,.int .i64 q.hi.c]) (t:=115) (fr:=(0,0)) (bY w8 _)) DR CR DO CR DC (w8.heap.size+1) C0 ?_);intro gg cap2 w9 jY iP mM _;have oH:=Gro.later aS HO8.out (aB w8 (.cells #[.int .i64 q.lo.a,.int .i64 q.lo.b,.int .i64 q.lo.c,.int .i64 q.hi.a,.int .i64 q.hi.b,.int .i64 q.hi.c] 115));have jZ:=Gro.added aS oH (x:=q) (news:=eD q) (enc_rng q) rfl jY iP EE;have rC:Hid (Rgs w3.heap.size ((l2.take (k+1)).foldl aR []) (.slice (some ⟨gg,0,none⟩) 1 cap2) w9):=zh (by rw[vO.out];unfold Rgs;rw[List.map_append];exact jZ);have rS:=zh (gD (aA uO.out (aB w8 (.cells #[.int .i64 q.lo.a,.int .i64 q.lo.b,.int .i64 q.lo.c,.int .i64 q.hi.a,.int .i64 q.hi.b,.int .i64 q.hi.c] 115))) iP (fun b hb=>(oH.lt b hb).1));clear jY iP mM oH jZ own8 z0 z1 z2 z3 z4 z5;go_wp2_with fail;go_roundw;(case rel=>exact⟨k+1,CR,C5,rC,rS⟩);case measure=>simp[intOf];omega
   obtain⟨h,cp,rfl,hh1,hh2⟩:∃h cp,u4=.slice (some ⟨h,0,none⟩) m.length cp/\w3.heap.size<=h/\h<wr.heap.size:=by
    rcases Gro.val HO.out with⟨-,e⟩|h
    ·exact absurd e rE
    exact h
   have hmp:0<m.length:=List.length_pos_iff.2 rE;obtain⟨p,hpp⟩:∃p:Nat,m.length=p+1:=⟨m.length-1,CR⟩;obtain⟨z,hz,-⟩:=getElem?_of_lt (show p<m.length by omega);(have xQ:m.getLast? =some z:=by rw[List.getLast?_eq_getElem?,hpp];exact hz);have HMs:Hid ((l2.take (k+1)).foldl aR []=if bB q.lo z.hi<=0 then(if bB z.hi q.hi<0 then m.set p ⟨z.lo,q.hi⟩ else m) else m++[q]):=zh (by rw[HMn.out];unfold aR;rw[xQ];simp only[hpp,Nat.add_sub_cancel]);(have hwp:IntKind.i64.wrap ((m.length:Int)-1)=(p:Int):=by rw[bN CR CR];omega);have hp0:(0:Int)<=(p:Int)/\(p:Int)<(m.length:Int):=CR;have HO7:=zh (HO.out.later yQ.out);obtain⟨y0,y1,y2,y3,y4,y5⟩:=HO7.out.cell hz;obtain⟨⟨x0,x1,x2,x3,x4,x5⟩,-⟩:=bx6 tT.out;have HZ:=zh hz;have HPP:=zh hpp;have HM0:=zh rE;clear hz xQ hpp rE HMn;go_wp2_with fail;refine wp_region_held_drew (S:=fun W=>Below ((wr.alloc (.cells #[.int .i64 q.lo.a,.int .i64 q.lo.b,.int .i64 q.lo.c,.int .i64 q.hi.a,.int .i64 q.hi.b,.int .i64 q.hi.c] 115))).heap.size ((wr.alloc (.cells #[.int .i64 q.lo.a,.int .i64 q.lo.b,.int .i64 q.lo.c,.int .i64 q.hi.a,.int .i64 q.hi.b,.int .i64 q.hi.c] 115))) W) CQ (aL _) fun hS=>?_;refine zq 0 (.int .i64 (p:Int)) rfl ?_;refine zq 1 (.bool true) rfl ?_;refine zq 2 (.bool true) rfl ?_;refine zq 3 (.pointer (some ⟨wr.heap.size,0,none⟩)) rfl ?_;refine zt 4 (.agg #[.int .i64 q.lo.a,.int .i64 q.lo.b,.int .i64 q.lo.c]) rfl (fun W hW=>by have q0:=aD hW x0;have q1:=aD hW x1;have q2:=aD hW x2;go_simp) ?_;refine zq 5 (.slice (some ⟨h,0,none⟩) m.length cp) rfl ?_;refine zq 6 (.int .i64 (p:Int)) rfl ?_;refine zq 7 (.pointer (some ⟨h,p*6,none⟩)) rfl ?_;refine zq 8 (.pointer (some ⟨h,p*6+3,none⟩)) rfl ?_;refine zt 9 (.agg #[.int .i64 z.hi.a,.int .i64 z.hi.b,.int .i64 z.hi.c]) rfl (fun W hW=>by have q0:=aD hW y3;have q1:=aD hW y4;have q2:=aD hW y5;go_simp) ?_;(try simp only[zn]);refine zr 10 rfl (fun K hK=>?_);(try simp only[z1,z2,z3]);go_simp;have iM:=(aL ((wr.alloc (.cells #[.int .i64 q.lo.a,.int .i64 q.lo.b,.int .i64 q.lo.c,.int .i64 q.hi.a,.int .i64 q.hi.b,.int .i64 q.hi.c] 115))));refine(HCm.out q.lo z.hi _).mono ?_;rintro e w8 ⟨rfl,hw8'⟩;have hw8:=aA iM (hw8'.below);clear iM;refine hK.out _ _ hw8 (fun hS=>?_);clear hK K;refine zq 11 (.bool (decide (bB q.lo z.hi<=0))) rfl ?_;refine zq 12 (.bool (decide (bB q.lo z.hi<=0))) rfl ?_;(try simp only[zn]);refine wpAnyH_done CQ ?_ _;have HT8:=zh (aA yQ.out hw8);have HO8:=zh (HO.out.later HT8.out);have uO:=zh (aA HW.out HT8.out);have pN:=zh (aC hw8 tT.out);obtain⟨⟨z0,z1,z2,z3,z4,z5⟩,-⟩:=bx6 pN.out;obtain⟨t0,t1,t2,t3,t4,t5⟩:=HO8.out.cell HZ.out;clear hS x0 x1 x2 x3 x4 x5 y0 y1 y2 y3 y4 y5 tT hw8 hw8';by_cases h1:bB q.lo z.hi<=0
   ·have HM1:Hid ((l2.take (k+1)).foldl aR []=if bB z.hi q.hi<0 then m.set p ⟨z.lo,q.hi⟩ else m):=zh (by rw[HMs.out,if_pos h1]);have hd1:decide (bB q.lo z.hi<=0)=true:=decide_eq_true h1;clear HMs;generalize bB q.lo z.hi=cc at *;go_wp2_with fail;refine wp_region_held_drew (S:=fun W=>Below (w8).heap.size (w8) W) CQ (aL _) fun hS=>?_;refine zq 0 (.slice (some ⟨h,0,none⟩) m.length cp) rfl ?_;refine zq 1 (.int .i64 (p:Int)) rfl ?_;refine zq 2 (.pointer (some ⟨h,p*6,none⟩)) rfl ?_;refine zq 3 (.pointer (some ⟨h,p*6+3,none⟩)) rfl ?_;refine zt 4 (.agg #[.int .i64 z.hi.a,.int .i64 z.hi.b,.int .i64 z.hi.c]) rfl (fun W hW=>by have q0:=aD hW t3;have q1:=aD hW t4;have q2:=aD hW t5;go_simp) ?_;refine zq 5 (.pointer (some ⟨wr.heap.size,3,none⟩)) rfl ?_;refine zt 6 (.agg #[.int .i64 q.hi.a,.int .i64 q.hi.b,.int .i64 q.hi.c]) rfl (fun W hW=>by have q0:=aD hW z3;have q1:=aD hW z4;have q2:=aD hW z5;go_simp) ?_;(try simp only[zn]);refine zr 7 rfl (fun K hK=>?_);(try simp only[z1,z2,z3]);go_simp;have iM:=(aL (w8));refine(HCm.out z.hi q.hi _).mono ?_;rintro e w9 ⟨rfl,hw9'⟩;have hw9:=aA iM (hw9'.below);clear iM;refine hK.out _ _ hw9 (fun hS=>?_);clear hK K;refine zq 8 (.bool (decide (bB z.hi q.hi<0))) rfl ?_;(try simp only[zn]);refine wpAnyH_done CQ ?_ _;have HT9:=zh (aA HT8.out hw9);have HO9:=zh (HO.out.later HT9.out);have HW9:=zh (aA HW.out HT9.out);have rS:=zh (aC hw9 pN.out);obtain⟨⟨x0,x1,x2,x3,x4,x5⟩,-⟩:=bx6 rS.out;obtain⟨y0,y1,y2,y3,y4,y5⟩:=HO9.out.cell HZ.out;have f0:=HO9.out.froz;clear hS z0 z1 z2 z3 z4 z5 t0 t1 t2 t3 t4 t5 pN hw9 hw9';by_cases h2:bB z.hi q.hi<0
    ·have vV:Hid ((l2.take (k+1)).foldl aR []=m.set p ⟨z.lo,q.hi⟩):=zh (by rw[HM1.out,if_pos h2]);have HR9:=zh (HO9.out.hi HZ.out q.hi);have kQ:¬wr.heap.size=h:=CR;clear HM1;generalize bB z.hi q.hi=dd at *;go_wp2_with fail;go_roundw;(case rel=>exact⟨k+1,CR,C5,zh (by rw[vV.out];exact HR9.out),zh (Below.setCell (Below.setCell (Below.setCell HW9.out hh1 _) hh1 _) hh1 _)⟩);case measure=>simp[intOf];omega
    have vV:Hid ((l2.take (k+1)).foldl aR []=m):=zh (by rw[HM1.out,if_neg h2]);have hd2:decide (bB z.hi q.hi<0)=false:=decide_eq_false h2;clear HM1;generalize bB z.hi q.hi=dd at *;go_wp2_with fail;go_roundw;(case rel=>exact⟨k+1,CR,C5,zh (by rw[vV.out];exact HO9.out),HW9⟩);case measure=>simp[intOf];omega
   have vO:Hid ((l2.take (k+1)).foldl aR []=m++[q]):=zh (by rw[HMs.out,if_neg h1]);have hd1:decide (bB q.lo z.hi<=0)=false:=decide_eq_false h1;clear HMs t0 t1 t2 t3 t4 t5;generalize bB q.lo z.hi=cc at *;have own8:=Gro.own HO8.out;have hml:m.length<=6:=hmo;have hsz8:=uO.out.size;go_wp2_with(at_builtin;refine wpList_append_lies _ rfl _ _ 29 rfl w3.heap.size 115 i0 (.agg #[.int .i64 0,.int .i64 0,.int .i64 0,.int .i64 0,.int .i64 0,.int .i64 0]) 6 48 Tryz.underlying29 oN pY lF nO rfl CR _ m.length (m.map eD).flatten D4 (own8.alloc _) ⟨w8.heap.size,0,none⟩ 1 1 [.int .i64 q.lo.a,.int .i64 q.lo.b,.int .i64 q.lo.c,.int .i64 q.hi.a,.int .i64 q.hi.b,.int .i64 q.hi.c] D4 rfl (World.news_of_block (cs:=#[.int .i64 q.lo.a,.int .i64 q.lo.b,.int .i64 q.lo.c,.int .i64 q.hi.a,.int .i64 q.hi.b,.int .i64 q.hi.c]) (t:=115) (fr:=(0,0)) (bY w8 _)) DR CR DO CR DC (w8.heap.size+1) C0 ?_);intro gg cap2 w9 jY iP mM _;have oH:=Gro.later aS HO8.out (aB w8 (.cells #[.int .i64 q.lo.a,.int .i64 q.lo.b,.int .i64 q.lo.c,.int .i64 q.hi.a,.int .i64 q.hi.b,.int .i64 q.hi.c] 115));have jZ:=Gro.added aS oH (x:=q) (news:=eD q) (enc_rng q) rfl jY iP EE;have rC:Hid (Rgs w3.heap.size ((l2.take (k+1)).foldl aR []) (.slice (some ⟨gg,0,none⟩) (m.length+1) cap2) w9):=zh (by rw[vO.out];unfold Rgs;rw[List.map_append];exact jZ);have rS:=zh (gD (aA uO.out (aB w8 (.cells #[.int .i64 q.lo.a,.int .i64 q.lo.b,.int .i64 q.lo.c,.int .i64 q.hi.a,.int .i64 q.hi.b,.int .i64 q.hi.c] 115))) iP (fun b hb=>(oH.lt b hb).1));clear jY iP mM oH jZ own8 z0 z1 z2 z3 z4 z5;go_wp2_with fail;go_roundw;(case rel=>exact⟨k+1,CR,C5,rC,rS⟩);case measure=>simp[intOf];omega
  have HF:Hid (Rgs w3.heap.size (mergeR l2) u4 wr):=zh (by have h:=HO.out;rw[List.take_of_length_le CR] at h;exact h);go_wp2_with fail;go_ret;refine⟨mergeR l2,u4,rfl,(HF.out.row).moves aS (fun b hb jM=>⟨Nat.le_trans kH.out.size hb,fun _ _ h=>h⟩) CX,aA kH.out HW.out,lC.out _ rfl⟩
end Go.Proofs.YtmpopphjaggeoaaGreatDoor
namespace Go.Proofs.YtmpopphjaggeoaaGreatDoor
def endOf(b:Option Ver)(l:List Rng):Option Ver:=match l.getLast? with
 |some z=>some z.hi
 |none=>b
theorem eT:∀(l:List Rng)(b:Option Ver)(r:Rng),dU b (l++[r])=(dU b l&&decide (bB r.lo r.hi<0)&&(match endOf b l with|none=>true|some h=>decide (bB h r.lo<0)))
 |[],b,r=>by cases b<;>simp[dU,endOf]
 |x::l,b,r=>by
  have ih:=eT l (some x.hi) r
  have e:endOf b (x::l)=endOf (some x.hi) l:=by
   unfold endOf
   cases l with
   |nil=>rfl
   |cons y l=>rfl
  have u:∀m,dU b (x::m)=(decide (bB x.lo x.hi<0)&&(match b with|none=>true|some h=>decide (bB h x.lo<0))&&dU (some x.hi) m):=fun m=>by rw[dU.eq_def];cases b<;>rfl
  rw[List.cons_append,u,u,ih,e];simp only[Bool.and_assoc]
theorem sepOk_step{out:List Rng}{r:Rng}(h:dU none out=true)(hr:cE r=false):dU none (aR out r)=true:=by
 have jM:bB r.lo r.hi<0:=by unfold cE at hr;rw[decide_eq_false_iff_not] at hr;omega
 unfold aR
 cases hz:out.getLast? with
 |none=>
  simp only;rw[eT,h,decide_eq_true jM];unfold endOf;rw[hz];rfl
 |some z=>
  obtain⟨ini,rfl⟩:∃ini,out=ini++[z]:=by
   (have kQ:out≠[]:=fun e=>by rw[e] at hz;cases hz);refine⟨out.dropLast,?_⟩;rw[List.getLast?_eq_some_getLast kQ] at hz;cases hz;exact(List.dropLast_concat_getLast kQ).symm
  simp only;rw[eT] at h;simp only[Bool.and_eq_true,decide_eq_true_eq] at h;obtain⟨⟨h1,h2⟩,h3⟩:=h;split
  ·split
   ·rename_i hc hd
    have hset:(ini++[z]).set ((ini++[z]).length-1) ⟨z.lo,r.hi⟩=ini++[⟨z.lo,r.hi⟩]:=by
     rw[List.length_append,List.length_singleton,Nat.add_sub_cancel,List.set_append_right _ _ (Nat.le_refl _)];simp
    rw[hset,eT,h1,decide_eq_true (show bB z.lo r.hi<0 from cmpV_trans h2 hd),h3];rfl
   rw[eT,h1,decide_eq_true h2,h3];rfl
  rename_i hc;have h4:bB z.hi r.lo<0:=(cmpV_swap r.lo z.hi).1 CR;rw[eT,eT,h1,decide_eq_true h2,h3,decide_eq_true jM];have e:endOf none (ini++[z])=some z.hi:=by unfold endOf;rw[hz]
  rw[e];simp[h4]
theorem sepOk_fold:∀(l out:List Rng),dU none out=true->(∀x∈l,cE x=false)->dU none (l.foldl aR out)=true
 |[],out,h,_=>h
 |x::l,out,h,hx=>sepOk_fold l _ (sepOk_step h (hx x C0)) (fun y hy=>hx y (by simp[hy]))
theorem merge_keep:∀(l out:List Rng),dU none (out++l)=true->l.foldl aR out=out++l
 |[],out,_=>C0
 |x::l,out,h=>by
  have h1:dU none (out++[x])=true:=by
   have:∀(m:List Rng)(k:List Rng)(b:Option Ver),dU b (m++k)=true->dU b m=true:=by
    intro m
    induction m with
    |nil=>intro k b _;cases b<;>rfl
    |cons y m ih=>
     intro k b h;rw[List.cons_append,dU.eq_def] at h;rw[dU.eq_def];dsimp only at h ⊢;simp only[Bool.and_eq_true] at h ⊢;exact⟨h.1,ih k _ h.2⟩
   refine this (out++[x]) l none ?_;rw[List.append_assoc];exact h
  have hs:aR out x=out++[x]:=by
   unfold aR
   cases hz:out.getLast? with
   |none=>rfl
   |some z=>
    simp only;rw[eT] at h1;simp only[Bool.and_eq_true,decide_eq_true_eq] at h1;have h3:=h1.2;unfold endOf at h3;rw[hz] at h3;simp only[decide_eq_true_eq] at h3;rw[if_neg];have:=(cmpV_swap x.lo z.hi).2 h3;omega
  rw[List.foldl_cons,hs,merge_keep l (out++[x]) (by rw[List.append_assoc];exact h),List.append_assoc];rfl
theorem sepOk_lo:∀(l:List Rng)(b:Option Ver),dU b l=true->(∀h,b=some h->∀x∈l,bB h x.lo<0)/\l.Pairwise (fun x y=>bB x.lo y.lo<0)/\∀x∈l,cE x=false
 |[],b,_=>⟨fun _ _ x hx=>(by cases hx),List.Pairwise.nil,fun x hx=>(by cases hx)⟩
 |x::l,b,h=>by
  rw[dU.eq_def] at h;dsimp only at h;simp only[Bool.and_eq_true,decide_eq_true_eq] at h;obtain⟨⟨h1,h2⟩,h3⟩:=h;obtain⟨i1,i2,i3⟩:=sepOk_lo l (some x.hi) h3;have hx:∀y∈l,bB x.lo y.lo<0:=fun y hy=>cmpV_trans h1 (i1 _ rfl y hy);refine⟨fun g hg y hy=>?_,List.Pairwise.cons hx i2,fun y hy=>?_⟩
  ·subst hg;simp only[decide_eq_true_eq] at h2;rcases List.mem_cons.1 hy with rfl|hy
   ·exact h2
   exact cmpV_trans h2 (hx y hy)
  rcases List.mem_cons.1 hy with rfl|hy
  ·unfold cE;rw[decide_eq_false];omega
  exact i3 y hy
theorem sorted_eq:∀(l l2:List Rng),l2.Perm l->l.Pairwise (fun x y=>bB x.lo y.lo<0)->l2.Pairwise (fun x y=>0<=bB y.lo x.lo)->l2=l
 |[],l2,hp,_,_=>List.Perm.eq_nil hp
 |x::l,[],hp,_,_=>absurd hp.symm (by intro h;have:=h.eq_nil;cases this)
 |x::l,y::l2,hp,h1,h2=>by
  rw[List.pairwise_cons] at h1 h2;have hy:y∈x::l:=hp.subset C0;have hx:x∈y::l2:=hp.symm.subset C0
  have e:y=x:=by
   rcases List.mem_cons.1 hy with h|h
   ·exact h
   rcases List.mem_cons.1 hx with k|k
   ·exact k.symm
   have a:=h1.1 y h;have b:=h2.1 x k;omega
  subst e;rw[sorted_eq l l2 ((List.perm_cons y).1 hp) h1.2 h2.2]
theorem norm_law{l r:List Rng}(qX:(¬∀x∈l,cE x=false)->r.length<l.length)
  (kO:(∀x∈l,cE x=false)->∃l2:List Rng,l2.Perm l/\(∀(i j:Nat)(x y:Rng),i<j->l2[i]? =some x->l2[j]? =some y->0<=bB (y.lo) (x.lo))/\r=mergeR l2):r=l↔dU none l=true:=by
 by_cases kQ:∀x∈l,cE x=false
 ·obtain⟨l2,hp,hs,rfl⟩:=kO kQ;constructor
  ·intro h;rw[<-h];exact sepOk_fold l2 [] rfl (fun x hx=>kQ x (hp.subset hx))
  intro h;obtain⟨-,k2,-⟩:=sepOk_lo l none h
  have:l2=l:=sorted_eq l l2 hp k2 (by
   rw[List.pairwise_iff_getElem];intro i j hi hj vQ
   exact hs i j _ _ vQ (List.getElem?_eq_getElem hi) (List.getElem?_eq_getElem hj))
  rw[this];exact merge_keep l [] D5
 constructor
 ·intro h;have:=qX kQ;rw[h] at this;omega
 intro h;exact absurd (sepOk_lo l none h).2.2 kQ
end Go.Proofs.YtmpopphjaggeoaaGreatDoor
