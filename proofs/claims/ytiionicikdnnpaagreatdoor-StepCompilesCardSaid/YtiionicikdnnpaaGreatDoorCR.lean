/- Texts of this seat, joined. -/
import Derived.Test.YtiionicikdnnpaaGreatDoorZr
import Derived.Test.YtiionicikdnnpaaGreatDoorCQ
import Derived.Deep.AppendLies
set_option maxHeartbeats 2000000
set_option maxRecDepth 100000
set_option linter.unusedVariables false
set_option linter.unusedSimpArgs false
namespace Go.Proofs.YtiionicikdnnpaaGreatDoor
open Go.RowKit
structure DoLoop (w W0 wr:World) (bx k:Nat) (files:List Fil) (kind:Int) (src:List bA) (vf:Value) (out:bA) (sorted:Bool) (vc vo vn vs:Value) (u0 u1:Int) (saw:List bA):Prop where
 boxes:iT w wr kind vf out sorted vc vo vn u0 u1
 sbx:Sbx wr bx vs vc vo vn u0 u1
 own:wr.ownsRow (bx+1) 9 1 vs saw.length (saw.map Value.string)
 only:dU bx W0 wr
 found:(src.take k).map (dK files)=saw.map some
theorem found_snoc{files:List Fil}{src saw:List bA}{k:Nat}{x t:bA}(hx:src[k]? =some x)(ht:dK files x=some t)(h:(src.take k).map (dK files)=saw.map some):
  (src.take (k+1)).map (dK files)=(saw++[t]).map some:=by
 rw[List.take_add_one,hx];simp[h,ht]
theorem sawOf_some{files:List Fil}:∀{src saw:List bA},src.map (dK files)=saw.map some->nF files src=some saw
 |[],[],_=>rfl
 |[],_::_,h=>Z0
 |_::_,[],h=>Z0
 |x::r,t::l,h=>by
  simp at h;rw[nF,h.1,sawOf_some h.2]
theorem sawOf_none{files:List Fil}{x:bA}:∀{src:List bA},x∈src->dK files x=none->nF files src=none
 |y::r,h,hn=>by
  rw[nF];rcases List.mem_cons.1 h with rfl|h
  ·rw[hn]
  rw[sawOf_none h hn];cases dK files y<;>rfl
theorem findFile_mem{files:List Fil}{x t:bA}(h:dK files x=some t):∃f,f∈files/\f.text=t:=by
 unfold dK at h;rw[Option.map_eq_some_iff] at h;obtain⟨f,hf,rfl⟩:=h;exact⟨f,List.mem_of_find?_eq_some hf,rfl⟩
theorem rightFrom_text:∀{l:List Fil}{known:List bA},eN l known=true->∀f,f∈l->f.text.size<=65536
 |[],_,_,_,h=>aAW
 |g::r,known,h,f,hf=>by
  rw[eN] at h;split at h
  ·cases h
  rename_i hh;rcases List.mem_cons.1 hf with rfl|hf
  ·simp at hh;exact hh.2
  exact rightFrom_text h f hf
theorem rightFiles_text{l:List Fil}(h:cX l=true):∀f,f∈l->f.text.size<=65536:=by
 simp[cX] at h;exact rightFrom_text h.1
theorem cell_set{w:World}{b b' o o':Nat}{v x:Value}(rO:b≠b')(h:w.cell? ⟨b,o,none⟩=some x):(w.setCell ⟨b',o',none⟩ v).cell? ⟨b,o,none⟩=some x:=
 (World.cell?_of_block (w:=w) (Below.heap_setCell _ _ _ _ rO)).trans h
def Apart(a b:Nat):Prop:=a≠b
theorem Apart.of{a b:Nat}(h:a≠b):Apart a b:=h
theorem cell_set2{w:World}{b b' o o' o'':Nat}{v v' x:Value}(rO:Apart b b')(h:w.cell? ⟨b,o,none⟩=some x):((w.setCell ⟨b',o',none⟩ v).setCell ⟨b',o'',none⟩ v').cell? ⟨b,o,none⟩=some x:=cell_set rO (cell_set rO h)
theorem cell_set2a{w:World}{b o o' o'':Nat}{v v' x:Value}(h:w.cell? ⟨b,o,none⟩=some x):((w.setCell ⟨b+1+1+1,o',none⟩ v).setCell ⟨b+1+1+1,o'',none⟩ v').cell? ⟨b,o,none⟩=some x:=cell_set2 (Apart.of YM) h
theorem cell_set2b{w:World}{b b' o o' o'':Nat}{v v' x:Value}(rU:b'<b)(h:w.cell? ⟨b,o,none⟩=some x):((w.setCell ⟨b',o',none⟩ v).setCell ⟨b',o'',none⟩ v').cell? ⟨b,o,none⟩=some x:=cell_set2 (Apart.of YM) h
theorem res_cells'{w:World}{b:Nat}{u v x y:Value}(h0:w.cell? ⟨b,0,none⟩=some x)(h1:w.cell? ⟨b,1,none⟩=some y):
  ((w.setCell ⟨b,0,none⟩ u).setCell ⟨b,1,none⟩ v).cell? ⟨b,0,none⟩=some u/\((w.setCell ⟨b,0,none⟩ u).setCell ⟨b,1,none⟩ v).cell? ⟨b,1,none⟩=some v:=res_cells h0 h1
theorem block_grown{w4 w5 w6:World}{e:TypeId}{size n:Nat}{v:Value}{xs:List Value}{o:Obj}(hb:Below w4.heap.size w4 w5)(hO:w5.ownsRow w4.heap.size e size v n xs)(hg:(w5.alloc o).grownBy w6 v.ownBlock){j:Nat}(hj:j<w4.heap.size):w6.heap[j]? =w4.heap[j]? :=by
 have h5:=hb.size;rw[hg.block j Y9 (fun e=>by have:=(hO.lt j e.symm).1;omega),Below.heap_alloc _ _ _ YM];exact hb.block j hj
theorem mZ{w4 w5 w6:World}{e:TypeId}{size n:Nat}{v:Value}{xs:List Value}{o:Obj}(hb:Below w4.heap.size w4 w5)(hO:w5.ownsRow w4.heap.size e size v n xs)(hg:(w5.alloc o).grownBy w6 v.ownBlock){b j:Nat}{x:Value}(h:w4.cell? ⟨b,j,none⟩=some x):w6.cell? ⟨b,j,none⟩=some x:=
 (World.cell?_of_block (w:=w4) (block_grown hb hO hg (dS h))).trans h
theorem frozen_grown{w4 w5 w6:World}{e:TypeId}{size n:Nat}{v:Value}{xs:List Value}{o:Obj}(hb:Below w4.heap.size w4 w5)(hO:w5.ownsRow w4.heap.size e size v n xs)(hg:(w5.alloc o).grownBy w6 v.ownBlock){b j:Nat}{x:Value}(h:w4.cell? ⟨b,j,none⟩=some x)(hf:w4.frozen? ⟨b,j,none⟩=false):w6.frozen? ⟨b,j,none⟩=false:=
 (World.frozen?_of_block (w:=w4) (block_grown hb hO hg (dS h))).trans hf
theorem below_grown{w4 w5 w6:World}{e:TypeId}{size n:Nat}{v:Value}{xs:List Value}{o:Obj}(hb:Below w4.heap.size w4 w5)(hO:w5.ownsRow w4.heap.size e size v n xs)(hg:(w5.alloc o).grownBy w6 v.ownBlock):Below w4.heap.size w4 w6:=
 ⟨hg.os.trans hb.os,hg.tape.trans hb.tape,hg.output.trans hb.output,by have h1:=hb.size;have h2:=hg.size;simp at h2;omega,fun _ hj=>block_grown hb hO hg hj⟩
theorem below_grown'{w4 w5 w6:World}{e:TypeId}{size n:Nat}{v:Value}{xs:List Value}(hb:Below w4.heap.size w4 w5)(hO:w5.ownsRow (w4.heap.size+1) e size v n xs)(hg:w5.grownBy w6 v.ownBlock):Below w4.heap.size w4 w6:=
 ⟨hg.os.trans hb.os,hg.tape.trans hb.tape,hg.output.trans hb.output,Nat.le_trans hb.size hg.size,fun j hj=>by
  have h5:=hb.size;rw[hg.block j YM (fun e=>by have:=(hO.lt j e.symm).1;omega)]
  exact hb.block j hj⟩
theorem cloned_late{w4 w5:World}{o:Obj}{e:TypeId}{size n:Nat}{v:Value}{xs:List Value}(rP:w5.ownsRow (w4.alloc o).drew.heap.size e size v n xs)(hb:Below (w4.alloc o).drew.heap.size (w4.alloc o).drew w5):
  Below w4.heap.size w4 w5/\w5.heap[w4.heap.size]? =some o/\w5.ownsRow (w4.heap.size+1) e size v n xs:=by
 have hz:(w4.alloc o).drew.heap.size=w4.heap.size+1:=by show(w4.alloc o).heap.size=_;simp
 rw[hz] at rP hb;exact⟨(aA w4 o).drew.trans (hb.mono YM),(hb.block _ YM).trans (dR w4 o),rP⟩
theorem frozen_later{w w':World}(hb:Below w.heap.size w w'){b o:Nat}{v:Value}(h:w.cell? ⟨b,o,none⟩=some v)(hf:w.frozen? ⟨b,o,none⟩=false):w'.frozen? ⟨b,o,none⟩=false:=
 (hb.frozen (p:=⟨b,o,none⟩) (dS h)).trans hf
theorem ownsRow_base{w:World}{base base':Nat}{e:TypeId}{size:Nat}{v:Value}{n:Nat}{xs:List Value}(h:w.ownsRow base e size v n xs)(hb:base'<=base):w.ownsRow base' e size v n xs:=by
 obtain⟨h1,h2⟩:=h;refine⟨h1,?_⟩;rcases h2 with h2|⟨g,cap,cur,hv,hg,r⟩
 ·exact .inl h2
 exact .inr ⟨g,cap,cur,hv,Nat.le_trans hb hg,r⟩
theorem fils_of_owns{w:World}{base:Nat}{e:TypeId}{v:Value}{l:List Fil}(h:w.ownsRow base e 2 v l.length (dX l))(hz:∀f,f∈l->f.name.size<=140737488355328/\f.text.size<=140737488355328):pJ w v l:=by
 rcases h.2 with⟨rfl,h0⟩|⟨g,cap,cur,rfl,hg,FE,r1,r2,r3,r4⟩
 ·exact YH
 refine⟨_,cap,rfl,r1,r2,fun _=>⟨g,0,rfl,fun i f hf=>⟨[.string f.name,.string f.text],⟨rfl,hz f (List.mem_of_getElem? hf)⟩,rfl,fun j u hu=>?_⟩⟩⟩;have hi:i<l.length:=(Yb.1 hf).1;obtain⟨c1,c2⟩:=filCells_at l i f hf;rw[<-r4,List.getElem?_take,if_pos YM] at c1;rw[<-r4,List.getElem?_take,if_pos YM] at c2
 match j,hu with
 |0,hu=>cases hu;simp only[World.cell?,FE];simpa using c1
 |1,hu=>cases hu;simp only[World.cell?,FE];simpa using c2
theorem fils_size{w:World}{v:Value}{l:List Fil}(h:pJ w v l){f:Fil}(hf:f∈l):f.name.size<=140737488355328/\f.text.size<=140737488355328:=by
 rcases h.cases with⟨rfl,-⟩|⟨b,o,c,-,-,-,-,-,hc⟩
 ·cases hf
 obtain⟨i,hi⟩:=List.getElem?_of_mem hf;exact(hc i f hi).2.2
theorem filCells_snoc(l:List Fil)(f:Fil):dX l++[.string f.name,.string f.text]=dX (l++[f]):=by simp[dX]
theorem strs_only{b:Nat}{w w':World}{v:Value}{l:List bA}(h:Strs w v l)(ho:dU b w w')(hb:∀a n c,v=.slice (some a) n c->l≠[]->a.block≠b):Strs w' v l:=by
 obtain⟨a,c,hv,h1,h2,h3⟩:=h;refine⟨a,c,hv,h1,h2,fun rO=>?_⟩;obtain⟨b',o',ha,hc⟩:=h3 rO;refine⟨b',o',ha,fun i x' hx=>?_⟩;obtain⟨cs,e,hl,hj⟩:=hc i x' hx;exact⟨cs,e,hl,fun j u hu=>ho.cell (hb ⟨b',o',none⟩ l.length c (by rw[hv,ha]) rO) (hj j u hu)⟩
theorem ints_off{w:World}{v:Value}{l:List Int}(h:nA w v l){b:Nat}(hb:w.heap.size<=b):∀a n c,v=.slice (some a) n c->l≠[]->a.block≠b:=by
 intro a n c e rO;rcases h.cases with⟨h0,-⟩|⟨bl,o,c',he,-,-,-,rU,-⟩
 ·exact absurd h0 rO
 rw[e] at he;cases he;simp;omega
theorem saw_text{files:List Fil}{src saw:List bA}{k:Nat}(h:(src.take k).map (dK files)=saw.map some)(ht:∀f,f∈files->f.text.size<=65536):∀x,x∈saw->x.size<=65536:=by
 intro x hx;have:some x∈saw.map some:=List.mem_map_of_mem hx;rw[<-h] at this;obtain⟨y,-,hy⟩:=List.mem_map.1 this;obtain⟨f,hf,rfl⟩:=findFile_mem hy;exact ht f hf
def FarFrom(w:World)(v:Value):Prop:=∀a n c,v=.slice (some a) n c->w.heap.size<=a.block
theorem do_main(s:Stp)(files:List Fil)(clock order:List Int)(vf vl vc vo vn:Value)(u0 u1:Int)(w:World)(h:DoIn s files clock order vf vl vc vo vn u0 u1 w)
  (xQ:cW s=true) (wB:cX files=true) (zB:¬min u0 u1<0) (ht:dK files s.out=none) (xS:¬60<=files.length) (R:Ending->World->Prop)
  (QZ:nF files s.src=none->∀W',Below w.heap.size w W'->R (.returned (doErr u0 u1 4)) W')
  (WP:List bA->bA->Int->List bA->Int->Int->Prop)
  (hwrite:∀saw,nF files s.src=some saw->∀bx vs W,WriteIn s saw clock order bx vs vc vo vn vf u0 u1 W->Calls Tryz.prog 107 #[.pointer (some ⟨bx,0,none⟩),pA s.kind vf s.out s.sorted] W fun e w'=>
   ∃vs' text err saw' a b,e=.returned (.tuple #[.string text,.int .i64 err])/\Sbx w' bx vs' vc vo vn a b/\StrsOff bx w' vs' saw'/\dU bx W w'/\WP saw text err saw' a b)
  (xI:∀saw,nF files s.src=some saw->∀text err saw' a b,WP saw text err saw' a b->text.size<=140737488355328/\(err≠0->∀W',Below w.heap.size w W'->R (.returned (doErr u0 u1 err)) W')/\
   (err=0->65536<text.size->∀W',Below w.heap.size w W'->R (.returned (doErr u0 u1 6)) W')/\
   (err=0->¬65536<text.size->∀W' vfl vsaw,Below w.heap.size w W'->pJ W' vfl (oJ s files text)->Strs W' vsaw saw'->FarFrom w vfl->(saw'≠[]->FarFrom w vsaw)->R (.returned (.tuple #[vfl,vsaw,.agg #[.int .i64 a,.int .i64 b],.int .i64 0])) W')):
  Calls Tryz.prog 40 (mW s vf vl vc vo vn u0 u1) w R:=by
 have HT:=zh (show nK files s.out=.tuple #[.string ByteArray.empty,.bool false] by unfold nK;rw[ht]);clear ht;have HRT:=zh (rightFiles_text wB);have IM:=zh xQ;have HNo:=zh QZ;clear QZ;have HWr:=zh hwrite;clear hwrite;have SB:=zh xI;clear xI;obtain⟨i0,hi,vA,tF,sY⟩:=info_parts strInfo;have hminb:decide (min u0 u1<0)=false:=decide_eq_false zB;obtain⟨⟨a1,c1,e1⟩,⟨a2,c2,e2⟩,⟨a3,n3,c3,e3⟩,⟨a4,n4,c4,e4⟩,⟨a5,n5,c5,e5⟩⟩:=nX h
 have HR:Hid (∀W,Below w.heap.size w W->Calls Tryz.prog 105 #[pA s.kind vf s.out s.sorted] W fun e w'=>e=.returned (.bool true)/\Below W.heap.size W w'):=
  zh fun W hb=>xQ▸iU s vf W (h.hsrc.later hb) h.hout
 have HF:Hid (∀W,Below w.heap.size w W->Calls Tryz.prog 104 #[vl] W fun e w'=>e=.returned (.bool true)/\Below W.heap.size W w'):=
  zh fun W hb=>wB▸kN files vl W (h.hfil.later hb)
 have R9:Hid (∀W x,Below w.heap.size w W->Calls Tryz.prog 103 #[vl,.string x] W fun e w'=>e=.returned (nK files x)/\Below W.heap.size W w'):=
  zh fun W x hb=>find_any files vl x W (h.hfil.later hb)
 have NW:=zh h;obtain⟨kind,src,out,sorted⟩:=s;have hu0:=h.hu0;have hu1:=h.hu1;clear h;simp only at e1;subst e1 e2 e3 e4 e5;unfold mW;simp only at HR HF ⊢;have sM:=iT.made w kind (.slice a1 src.length c1) out sorted (.slice a3 n3 c3) (.slice a4 n4 c4) (.slice a5 n5 c5) u0 u1;have uJ:=zh sM;clear sM xQ wB;simp only at HT HNo HWr SB;go_enter Tryz.func40,Tryz.ntmps40;go_wp2_with fail;refine(HR.out _ uJ.out.below).mono ?_;rintro e w1 ⟨rfl,rR⟩;have sT:=zh (uJ.out.later rR);clear uJ rR;go_wp2_with fail;refine(HF.out _ sT.out.below).mono ?_;rintro e w2 ⟨rfl,rQ⟩;have rZ:=zh (sT.out.later rQ);clear sT rQ;obtain⟨s0,s1,s2,s3,y0,y1,y2,x0,x1,r0,r1,f0,f1⟩:=rZ.out.cells;go_wp2_with fail;refine(R9.out _ _ rZ.out.below).mono ?_;rw[HT.out];rintro e w3 ⟨rfl,tI⟩;have tX:=zh (rZ.out.later tI);clear rZ tI s0 s1 s2 s3 y0 y1 y2 x0 x1 r0 r1 f0 f1;obtain⟨s0,s1,s2,s3,y0,y1,y2,x0,x1,r0,r1,f0,f1⟩:=tX.out.cells;have hsl:=(lK IM.out).2.2.1;simp only at hsl;have g0:=jC tX.out.bs;have g1:=jC tX.out.bw;have g2:=jC tX.out.bu;have g3:=jC tX.out.br;have hfullb:decide (60<=(files.length:Int))=false:=decide_eq_false YM;go_wp2_with fail
 have hW0:DoLoop w (w3.alloc (oBx23 none 0 0 a3 n3 c3 a4 n4 c4 a5 n5 c5 u0 u1)) (w3.alloc (oBx23 none 0 0 a3 n3 c3 a4 n4 c4 a5 n5 c5 u0 u1)) w3.heap.size 0 files kind src (.slice a1 src.length c1) out sorted (.slice a3 n3 c3) (.slice a4 n4 c4) (.slice a5 n5 c5) (.slice none 0 0) u0 u1 []:=
  ⟨tX.out.later (aA _ _),dR _ _,World.ownsRow_nil _ _ _ _,dU.refl _ _,rfl⟩
 have hbx:w.heap.size+1+1+1<w3.heap.size:=g3;have O8:(w3.alloc (oBx23 none 0 0 a3 n3 c3 a4 n4 c4 a5 n5 c5 u0 u1)).heap.size=w3.heap.size+1:=YR;clear s0 s1 s2 s3 y0 y1 y2 x0 x1 r0 r1 f0 f1 g0 g1 g2 g3 tX HR HF HT;generalize w3.alloc (oBx23 none 0 0 a3 n3 c3 a4 n4 c4 a5 n5 c5 u0 u1)=W0 at hW0 O8 ⊢;generalize w3.heap.size=bx at hW0 O8 hbx ⊢;have JK:=zh hW0;clear hW0;have HWs:=zh O8;clear O8;go_loopw [58] (fun i wr=>∃(k:Nat)(vs:Value)(saw:List bA),k<=src.length/\i=.int .i64 k/\DoLoop w W0 wr bx k files kind src (.slice a1 src.length c1) out sorted (.slice a3 n3 c3) (.slice a4 n4 c4) (.slice a5 n5 c5) vs u0 u1 saw) (fun i _=>src.length-(intOf i).toNat)
 case atStart=>exact⟨0,_,[],Nat.zero_le _,rfl,JK.out⟩
 case round=>
  clear JK;obtain⟨k,vs,saw,hk,rfl,hL⟩:=hrel;have HL:=zh hL;obtain⟨hB,hS,hO,hOn,hFo⟩:=hL;have HO:=zh hO;have FJ:=zh hFo;obtain⟨s0,s1,s2,s3,y0,y1,y2,x0,x1,r0,r1,f0,f1⟩:=hB.cells;have c0:=hS.cell 0;have q0:=hS.frozen 0;simp only[List.getElem?_toArray,List.getElem?_cons_zero] at c0;have vR:=zh hB.below;have hlw:=hB.below.size;have vK:=hS.lt;have HB:=zh hB;have HS:=zh hS;clear hB hS hO hFo;by_cases rU:k<src.length
  ·rcases NW.out.hsrc.cases with⟨h0,-⟩|⟨bl,ol,cl,he,-,-,-,-,yE⟩
   ·simp only at h0;rw[h0] at rU;simp at rU
   simp only at he yE;(injection he with ED AP RF);subst ED RF;obtain⟨x,hx,hxm⟩:=getElem?_of_lt rU;have uP:=aD vR.out (yE k x hx).1;have HX:=zh hx;clear yE hx AP
   cases hf:dK files x with
   |none=>
    have HFv:=zh (show nK files x=.tuple #[.string ByteArray.empty,.bool false] by unfold nK;rw[hf]);have HFN:=zh (sawOf_none hxm hf);clear hf hxm;go_wp2_with fail;refine(R9.out _ _ vR.out).mono ?_;rw[HFv.out];rintro e w4 ⟨rfl,wO⟩;clear s0 s1 s2 s3 y0 y1 y2 x0 x1 r0 r1 f0 f1 c0 q0;have vX:=zh (HB.out.later wO);obtain⟨s0,s1,s2,s3,y0,y1,y2,x0,x1,r0,r1,f0,f1⟩:=vX.out.cells;go_wp2_with fail;(go_region);go_wp2_with fail;exact vX.out.err rfl rfl rfl rfl rfl (HNo.out HFN.out)
   |some t=>
    have HFv:=zh (show nK files x=.tuple #[.string t,.bool true] by unfold nK;rw[hf]);have HFs:=zh (found_snoc HX.out hf FJ.out);clear hf hxm;go_wp2_with fail;refine(R9.out _ _ vR.out).mono ?_;rw[HFv.out];rintro e w4 ⟨rfl,wO⟩;have hbl4:=wO.size;have MF:=zh (HS.out.later wO);have IN:=zh (HO.out.kept (row:=none) ⟨wO.os,wO.tape,wO.output,wO.size,fun k hk _=>wO.block k hk⟩ (Classical.em _));have vX:=zh (HB.out.later wO);have HOn4:=zh (hOn.trans (dU.of_below wO));(have H7:saw.length=k:=by have:=congrArg List.length FJ.out;simp at this;omega);have hsl2:saw.length<=60:=YM;clear H7 s0 s1 s2 s3 y0 y1 y2 x0 x1 r0 r1 f0 f1 c0 q0 wO uP HS HO HB hOn;have kk4:=MF.out.cell 0;have q4:=MF.out.frozen 0;simp only[List.getElem?_toArray,List.getElem?_cons_zero] at kk4;have hbl4':bx<w4.heap.size:=MF.out.lt;go_wp2_with(at_builtin;refine wpList_append_own _ rfl _ _ 23 rfl (bx+1) 9 i0 (.string ByteArray.empty) 1 16 Tryz.underlying23 hi vA tF sY rfl YO _ _ _ rfl (IN.out.alloc _) ⟨w4.heap.size,0,none⟩ 1 1 [.string t] rfl rfl (cell_one_new _ _ _) Y3 Y7 YM Y9 ?_);intro v' w5 wY rN _;(have AY:w4.heap.size+1<=w5.heap.size:=by have:=rN.size;simpa using this);have sJ:∀j,vs.ownBlock=some j->bx+1<=j:=fun j e=>(IN.out.lt j e).1
    have LP:∀j,j<w4.heap.size->j<=bx->w5.heap[j]? =w4.heap[j]? :=fun j hj hjb=>by
     rw[rN.block j Y9 (fun e=>by have:=sJ j e.symm;omega),Below.heap_alloc _ _ _ hj]
    have GO:=zh (MF.out.of_block (LP bx hbl4' (Nat.le_refl _)));have kk5:=GO.out.cell 0;have q5:=GO.out.frozen 0;simp only[List.getElem?_toArray,List.getElem?_cons_zero] at kk5;obtain⟨g',cap',rfl⟩:=ownsRow_succ wY;have uQ:=zh wY;have hg5:=(wY.lt g' rfl).1;have HG5:=zh rN;have HBk:=zh LP;clear wY rN LP sJ;go_wp2_with fail;go_roundw
    case rel=>
     refine⟨k+1,.slice (some ⟨g',0,none⟩) (saw.length+1) cap',saw++[t],YM,YZ,?_⟩;have NL:=jC vX.out.br
     have hOn5:dU bx W0 (w5.setCell ⟨bx,0,none⟩ (.slice (some ⟨g',0,none⟩) (saw.length+1) cap')):=by
      refine dU.trans ?_ (dU.setCell w5);have hw:=HWs.out;have h1:=HOn4.out;refine⟨HG5.out.os.trans h1.os,HG5.out.tape.trans h1.tape,HG5.out.output.trans h1.output,by have:=h1.size;omega,fun j hj rO=>?_⟩;rw[HBk.out j (by have:=h1.size;omega) YM];exact h1.block j hj rO
     refine⟨⟨?_,?_,?_,?_,?_⟩,GO.out.saw0 _,?_,hOn5,HFs.out⟩
     ·rw[Below.heap_setCell _ _ _ _ Y9,HBk.out _ YM YM];exact vX.out.bs
     ·rw[Below.heap_setCell _ _ _ _ Y9,HBk.out _ YM YM];exact vX.out.bw
     ·rw[Below.heap_setCell _ _ _ _ Y9,HBk.out _ YM YM];exact vX.out.bu
     ·rw[Below.heap_setCell _ _ _ _ Y9,HBk.out _ YM YM];exact vX.out.br
     ·have hb:=vX.out.below;refine(Below.setCell ⟨HG5.out.os.trans hb.os,HG5.out.tape.trans hb.tape,HG5.out.output.trans hb.output,by have:=hb.size;omega,fun j hj=>?_⟩ Y9 _);rw[HBk.out j YM YM];exact hb.block j hj
     have:=ownsRow_setCell_below uQ.out (a:=⟨bx,0,none⟩) YR (.slice (some ⟨g',0,none⟩) (saw.length+1) cap');simpa using this
    case measure=>simp[intOf];omega
  have BT:k=src.length:=YM;have HFa:=zh (sawOf_some (src:=src) (saw:=saw) (by have:=FJ.out;rwa [List.take_of_length_le YM] at this));have H7:saw.length=src.length:=by have:=congrArg List.length FJ.out;simp at this;omega
  have hbxw:∀{v:Value}{j:Nat},j<w.heap.size->j≠bx:=fun h e=>YM
  have JH:WriteIn ⟨kind,src,out,sorted⟩ saw clock order bx vs (.slice a3 n3 c3) (.slice a4 n4 c4) (.slice a5 n5 c5) (.slice a1 src.length c1) u0 u1 wr:=by
   have hD:=NW.out;have hx:=HRT.out;refine⟨hD.hglob.later vR.out,by have:=hD.hglob.big;omega,HS.out,⟨strs_of_owns HO.out (fun x hx'=>?_),fun a n c e _=>?_⟩,⟨hD.hclk.later vR.out,ints_off hD.hclk YM⟩,⟨hD.hord.later vR.out,ints_off hD.hord YM⟩,hD.hsrc.later vR.out,IM.out,fun x hx'=>?_,H7,⟨YM,hu0.2⟩,⟨YM,hu1.2⟩,hD.hcwf,hD.howf⟩
   ·have:=saw_text FJ.out hx x hx';omega
   ·have:=owns_block HO.out (Nat.le_refl _) a n c e;omega
   exact saw_text FJ.out hx x hx'
  have HWc:=zh (HWr.out saw HFa.out bx vs wr JH);have HEe:=zh (SB.out saw HFa.out);clear JH H7 HWr SB HNo R9 BT hbxw;go_wp2_with fail;refine HWc.out.mono ?_;rintro e w4 ⟨vs',text,err,saw',ua,ub,rfl,hS4,zK,hO4,hP⟩;obtain⟨ht47,ED,AP,RF⟩:=HEe.out text err saw' ua ub hP;have HE1:=zh ED;have FL:=zh AP;have HE3:=zh RF;have vX:=zh (HB.out.only hO4 hbx);have MF:=zh hS4;have HT4:=zh zK;clear s0 s1 s2 s3 y0 y1 y2 x0 x1 r0 r1 f0 f1 c0 q0 ED AP RF hS4 zK hO4 hP HEe HWc HB HS;obtain⟨s0,s1,s2,s3,y0,y1,y2,x0,x1,r0,r1,f0,f1⟩:=vX.out.cells;by_cases LM:err=0
  ·subst LM;by_cases tQ:65536<text.size
   ·go_wp2_with fail;(go_region);go_wp2_with fail;exact vX.out.err rfl rfl rfl rfl rfl (FL.out trivial tQ)
   obtain⟨m0,hmi,sM,AK,Q0⟩:=info_parts filInfo;have v0:w4.cell? ⟨bx,0,none⟩=some vs':=MF.out.cell 0;have v4:w4.cell? ⟨bx,4,none⟩=some (.int .i64 ua):=MF.out.cell 4;have v5:w4.cell? ⟨bx,5,none⟩=some (.int .i64 ub):=MF.out.cell 5;have hb4w:=vX.out.below;have M1:=zh (NW.out.hfil.later hb4w);have HFA:Hid (pJ (w4.alloc (.cells #[.string out,.string text] 69)).drew (.slice a2 files.length c2) files):=zh (M1.out.later (aA w4 _).drew);have hbx4:bx<w4.heap.size:=MF.out.lt;have DV:Hid (∀W,pJ W (.slice a2 files.length c2) files->Calls Tryz.prog 108 #[.slice a2 files.length c2] W fun e w'=>∃v',e=.returned v'/\w'.ownsRow W.heap.size 69 2 v' files.length (dX files)/\Below W.heap.size W w'):=zh fun W hW=>clone_any files _ W hW YM;have RD:files.length<=60:=YM;(obtain⟨va,vnn,vcc,hvs'⟩:∃a n c,vs'=.slice a n c:=by obtain⟨a,c,e,-⟩:=HT4.out.1;exact⟨a,_,c,e⟩);subst hvs';clear HE1 FL s0 s1 s3 y0 y1 y2 x0 x1 hb4w;go_wp2_with fail
   go_region_held3 (fun W=>W.cell? ⟨w.heap.size,2,none⟩=some (.string out)/\W.cell? ⟨bx,0,none⟩=some (.slice va vnn vcc)/\W.cell? ⟨bx,4,none⟩=some (.int .i64 ua)/\W.cell? ⟨bx,5,none⟩=some (.int .i64 ub))
    (first|exact⟨l0,l1,l2,l3⟩|exact⟨aD (aA _ _) j0,aD (aA _ _) j1,aD (aA _ _) j2,aD (aA _ _) j3⟩|exact⟨j0,j1,j2,j3⟩|exact⟨s2,v0,v4,v5⟩|(refine⟨cell_set2a ?_,cell_set2b hbx ?_,cell_set2b hbx ?_,cell_set2b hbx ?_⟩<;>assumption)|go_keep)
    (first|(go_at_call 108;refine(DV.out _ (by exact M1.out)).mono ?_;rintro e w5 ⟨vcl,rfl,wY,hb5⟩;have xX:Below w4.heap.size w4 w5:=(Below.refl _ w4).drew.trans hb5;have j0:=aD xX s2;have j1:=aD xX v0;have j2:=aD xX v4;have j3:=aD xX v5;have uQ:=zh wY;have yW:=zh xX;clear wY hb5 xX)|(have _g:=uQ;show(if _ then _ else _);go_must (refine step_append_lies (w5.alloc (.cells #[.string out,.string text] 69)) ?y1 (.tmp 100) (.tmp 105) 64 ?y2 w4.heap.size 69 m0 (.agg #[.string ByteArray.empty,.string ByteArray.empty]) 2 32 Tryz.underlying64 hmi sM AK Q0 ?y8 ?y6 vcl files.length (dX files) ?y3 ?z1 ⟨w5.heap.size,0,none⟩ 1 1 [.string out,.string text] ?y4 ?y5 ?z2 ?z3 ?y7 ?z4 ?z5 ?z6 (w5.heap.size+1) ?z7 ?z8);go_must (case y1=>rfl);go_must (case y2=>rfl);go_must (case y8=>rfl);go_must (case y3=>rfl);go_must (case y4=>rfl);go_must (case y5=>rfl);go_must (case y6=>omega);go_must (case y7=>omega);go_must (case z1=>exact uQ.out.alloc _);go_must (case z2=>exact World.news_of_block (cs:=#[.string out,.string text]) (t:=69) (fr:=(0,0)) (bY w5 _));go_must (case z3=>simp[Value.oneCell']);go_must (case z4=>(unfold maxLen;omega));go_must (case z5=>omega);go_must (case z6=>(have:=yW.out.size;simp;omega));go_must (case z7=>simp);go_must (intro gg cap w6 sZ rN sD hlt6);go_must (have l0:=mZ yW.out uQ.out rN s2);go_must (have l1:=mZ yW.out uQ.out rN v0);go_must (have l2:=mZ yW.out uQ.out rN v4);go_must (have l3:=mZ yW.out uQ.out rN v5);go_must (have l4:=mZ yW.out uQ.out rN r0);go_must (have l5:=mZ yW.out uQ.out rN r1);go_must (have l6:=frozen_grown yW.out uQ.out rN r0 f0);go_must (have l7:=frozen_grown yW.out uQ.out rN r1 f1);have DS:=zh sZ;have QF:=zh (below_grown yW.out uQ.out rN);clear sZ rN sD)|(go_at_call 108;show Calls _ _ _ (World.drew (World.alloc w4 (.cells #[.string out,.string text] 69))) _;go_must (refine(DV.out _ (HFA.out)).mono ?_);go_must (rintro e w5 ⟨vcl,rfl,wY,hb5⟩);go_must (obtain⟨xX,HNB',R6⟩:=cloned_late wY hb5);go_must (have j0:=aD xX s2);go_must (have j1:=aD xX v0);go_must (have j2:=aD xX v4);go_must (have j3:=aD xX v5);have HNB:=zh HNB';have UW:=zh R6;have yW:=zh xX;clear wY hb5 xX HNB' R6)|(have _g:=UW;show(if _ then _ else _);go_must (refine step_append_lies w5 ?x1 (.tmp 100) (.tmp 105) 64 ?x2 (w4.heap.size+1) 69 m0 (.agg #[.string ByteArray.empty,.string ByteArray.empty]) 2 32 Tryz.underlying64 hmi sM AK Q0 ?x8 ?x6 vcl files.length (dX files) ?x3 ?x9 ⟨w4.heap.size,0,none⟩ 1 1 [.string out,.string text] ?x4 ?x5 ?t2 ?t3 ?x7 ?t4 ?t5 ?t6 w5.heap.size ?t7 ?t8);go_must (case x1=>rfl);go_must (case x2=>rfl);go_must (case x8=>rfl);go_must (case x3=>rfl);go_must (case x4=>rfl);go_must (case x5=>rfl);go_must (case x6=>omega);go_must (case x7=>omega);go_must (case x9=>exact UW.out);go_must (case t2=>exact World.news_of_block (cs:=#[.string out,.string text]) (t:=69) (fr:=(0,0)) HNB.out);go_must (case t3=>simp[Value.oneCell']);go_must (case t4=>(unfold maxLen;omega));go_must (case t5=>omega);go_must (case t6=>(have:=jC HNB.out;omega));go_must (case t7=>rfl);go_must (intro gg cap w6 sZ rN sD hlt6);go_must (have vH:=below_grown' yW.out UW.out rN);go_must (have l0:=aD vH s2);go_must (have l1:=aD vH v0);go_must (have l2:=aD vH v4);go_must (have l3:=aD vH v5);go_must (have l4:=aD vH r0);go_must (have l5:=aD vH r1);go_must (have l6:=frozen_later vH r0 f0);go_must (have l7:=frozen_later vH r1 f1);have DS:=zh (ownsRow_base sZ (Nat.le_succ _));have QF:=zh vH;clear sZ rN sD vH))
   all_goals
    go_wp2_with fail;have hr:=res_cells' (w:=w6) (b:=w.heap.size+1+1+1) (u:=.int .i64 ua) (v:=.int .i64 ub) l4 l5;refine bodyPost_ret (v:=.tuple #[.slice (some ⟨gg,0,none⟩) (files.length+1) cap,.slice va vnn vcc,.agg #[.int .i64 ua,.int .i64 ub],.int .i64 0]) (by simp[results,Tryz.results40,go_sem,hr.1,hr.2]) rfl ?_;have vH:=QF.out;have hg6:=(DS.out.lt gg rfl).1;have NL:=jC vX.out.br;have OF:Below w4.heap.size w4 w6:=vH;have hbw4:=vX.out.below.size;have hbxw:=hbx;refine HE3.out trivial YM _ _ _ ?_ ?_ ?_ (fun a n c e=>by cases e;exact Nat.le_trans hbw4 hg6) (fun rO a n c e=>by have:=HT4.out.2 a n c e rO;omega)
    ·exact((vX.out.below.trans (vH.mono (by have:=vX.out.below.size;omega))).setCell Y9 _).setCell Y9 _
    ·have rP:=ownsRow_setCell_below (ownsRow_setCell_below DS.out (a:=⟨w.heap.size+1+1+1,0,none⟩) Y9 (.int .i64 ua)) (a:=⟨w.heap.size+1+1+1,1,none⟩) Y9 (.int .i64 ub);rw[filCells_snoc files ⟨out,text⟩] at rP;refine fils_of_owns (l:=oJ ⟨kind,src,out,sorted⟩ files text) (by simpa[oJ] using rP) (fun f hf=>?_);simp only[oJ,List.mem_append,List.mem_singleton] at hf;rcases hf with hf|rfl
     ·exact fils_size M1.out hf
     exact⟨NW.out.hout,ht47⟩
    have h4:=HT4.out.1.later OF;exact strs_only h4 ((dU.setCell _).trans (dU.setCell _)) (fun a n c e rO=>by have:=HT4.out.2 a n c e rO;omega)
  have NN:(err==0)=false:=beq_eq_false_iff_ne.2 LM;have rR:(err != 0)=true:=by rw[bne_iff_ne];exact LM
  have HEr:=zh LM;clear LM;go_wp2_with fail;go_region
  go_wp2_with fail;exact vX.out.err rfl rfl rfl rfl rfl (HE1.out HEr.out)
theorem XG{p:Prop}(h:p:=by
 rintro e w' ⟨rfl,hb⟩
 exact⟨hb,rfl⟩):p:=h
def DoPost(w:World)(s:Stp)(files:List Fil)(u0 u1:Int)(r:DoRes)(e:Ending)(w':World):Prop:=
 Below w.heap.size w w'/\match r with
  | .error c=>e=.returned (doErr u0 u1 c)
  | .ok (text,saw,a,b)=>∃vfl vsaw,e=.returned (.tuple #[vfl,vsaw,.agg #[.int .i64 a,.int .i64 b],.int .i64 0])/\pJ w' vfl (oJ s files text)/\Strs w' vsaw saw
def DoFar(w:World)(s:Stp)(files:List Fil)(u0 u1:Int)(r:DoRes)(e:Ending)(w':World):Prop:=
 Below w.heap.size w w'/\match r with
  | .error c=>e=.returned (doErr u0 u1 c)
  | .ok (text,saw,a,b)=>∃vfl vsaw,e=.returned (.tuple #[vfl,vsaw,.agg #[.int .i64 a,.int .i64 b],.int .i64 0])/\pJ w' vfl (oJ s files text)/\Strs w' vsaw saw/\FarFrom w vfl/\(saw≠[]->FarFrom w vsaw)
theorem sawOf_texts{files:List Fil}(ht:∀f,f∈files->f.text.size<=65536):∀{src saw:List bA},nF files src=some saw->(∀x,x∈saw->x.size<=65536)/\saw.length=src.length
 |[],saw,h=>by cases h;simp
 |y::r,saw,h=>by
  rw[nF] at h;split at h
  ·rename_i t l hf hr;cases h;obtain⟨h1,h2⟩:=sawOf_texts ht hr;refine⟨fun x hx=>?_,by simp[h2]⟩;rcases List.mem_cons.1 hx with rfl|hx
   ·obtain⟨f,FF,rfl⟩:=findFile_mem hf;exact ht f FF
   exact h1 x hx
  cases h
theorem size_toArray(l:List UInt8):(⟨l.toArray⟩:bA).size=l.length:=by show l.toArray.size=_;simp
theorem writeStep_size{s:Stp}{saw:List bA}{clock order:List Int}{u0 u1:Int}(hr:cW s=true)(ht:∀x,x∈saw->x.size<=65536)(hl:saw.length=s.src.length)(hc:∀x,x∈clock->(Lit.int .i64 x).wf=true):
  (cV s saw clock order u0 u1).1.size<=140737488355328:=by
 obtain⟨hn,hout,hlen,hk⟩:=lK hr;have tK:∀x,x∈s.src->x.size<=20:=fun x hx=>isName_size (hn x hx)
 have RB:(saw.headD ByteArray.empty).size<=65536:=by
  cases saw with
  |nil=>decide
  |cons x l=>exact ht x YR
 unfold cV;split
 ·have:=join_length saw 65536 ht;show(⟨(Lib.join _ []).toArray⟩:bA).size<=_;rw[size_toArray];refine Nat.le_trans this ?_;have:saw.length*65536<=60*65536:=Nat.mul_le_mul YM (Nat.le_refl _);omega
 split
 ·show(⟨(jP _).toArray⟩:bA).size<=_;rw[size_toArray];exact qO _ RB
 split
 ·show((_++_)++_:bA).size<=_
  have QR:(Lit.int .i64 (clock.getD u0.toNat 0)).wf=true:=by
   rw[List.getD_eq_getElem?_getD]
   cases hh:clock[u0.toNat]? with
   |none=>rfl
   |some y=>exact hc y (List.mem_of_getElem? hh)
  obtain⟨b0,b1⟩:=i64_bounds QR;have:=wireInt_size _ b0 b1;rw[ByteArray.size_append,ByteArray.size_append];have h1:(⟨#[10]⟩:bA).size=1:=rfl;omega
 split
 ·show(⟨(jP _).toArray⟩:bA).size<=_;rw[size_toArray];have:=mA (gA s.src) 20 (fun x hx=>tK x (lR hx));rw[gB] at this;omega
 show(⟨(jP _).toArray⟩:bA).size<=_;rw[size_toArray];have h1:=mA (fH order s.src.length u1.toNat (gA s.src)) 20 (fun x hx=>tK x (lR (pQ hx)));have h2:=oX order s.src.length u1.toNat (gA s.src);have h3:(fH order s.src.length u1.toNat (gA s.src)).length*(20+1)<=60*21:=Nat.mul_le_mul YM YM;omega
theorem do_far(C:bA->Int×bA)(s:Stp)(files:List Fil)(clock order:List Int)(vf vl vc vo vn:Value)(u0 u1:Int)(w:World)(h:DoIn s files clock order vf vl vc vo vn u0 u1 w)(h5:s.kind≠5):
  Calls Tryz.prog 40 (mW s vf vl vc vo vn u0 u1) w (DoFar w s files u0 u1 (fT C s files clock order u0 u1)):=by
 by_cases uZ:cW s=false\/cX files=false\/min u0 u1<0
 ·have e:fT C s files clock order u0 u1=.error 1:=by
   unfold fT;rw[if_pos];rcases uZ with h|h|h<;>simp[h]
  rw[e];refine(do_arg s files clock order vf vl vc vo vn u0 u1 w h uZ).mono ?_;exact XG
 have xQ:cW s=true:=aBs;have wB:cX files=true:=aAT;have zB:¬min u0 u1<0:=fun hh=>uZ (.inr (.inr hh))
 have e0:fT C s files clock order u0 u1=if(dK files s.out).isSome then .error 5 else if 60<=files.length then .error 6
   else match nF files s.src with|none=>.error 4|some saw=>if 65536<(cV s saw clock order u0 u1).1.size then .error 6 else .ok (cV s saw clock order u0 u1):=by
  unfold fT;rw[if_neg (by simp[xQ,wB,decide_eq_false zB])];split
  ·rfl
  split
  ·rfl
  cases nF files s.src with
  |none=>rfl
  |some saw=>simp only
 rw[e0]
 cases hf:dK files s.out with
 |some t=>
  simp only[Option.isSome_some,if_true];refine(do_twice s files clock order vf vl vc vo vn u0 u1 w h xQ wB zB t hf).mono ?_;exact XG
 |none=>
  simp only[Option.isSome_none,Bool.false_eq_true,if_false];by_cases xS:60<=files.length
  ·rw[if_pos xS];refine(do_full s files clock order vf vl vc vo vn u0 u1 w h xQ wB zB hf xS).mono ?_;exact XG
  rw[if_neg xS]
  refine do_main s files clock order vf vl vc vo vn u0 u1 w h xQ wB zB hf xS _ (fun hs W' hW=>?_)
   (fun saw text err saw' a b=>err=0/\(text,saw',a,b)=cV s saw clock order u0 u1) (fun saw hs bx vs W JH=>?_) (fun saw hs text err saw' a b hP=>?_)
  ·rw[hs];exact⟨hW,rfl⟩
  ·refine(write_any s saw clock order bx vs vc vo vn vf u0 u1 W JH h5).mono ?_;rintro e w' ⟨vs',rfl,h1,h2,h3⟩;exact⟨vs',_,0,_,_,_,rfl,h1,h2,h3,rfl,rfl⟩
  obtain⟨rfl,hw⟩:=hP;obtain⟨ht,hl⟩:=sawOf_texts (rightFiles_text wB) hs;have tK:=writeStep_size (order:=order) (u0:=u0) (u1:=u1) xQ ht hl h.hcwf;rw[hs];simp only;rw[<-hw] at tK ⊢;refine⟨tK,fun h=>absurd rfl h,fun _ tQ W' hW=>?_,fun _ tQ W' vfl vsaw hW h1 h2 h3 h4=>?_⟩
  ·rw[if_pos tQ];exact⟨hW,rfl⟩
  rw[if_neg tQ];exact⟨hW,vfl,vsaw,rfl,h1,h2,h3,h4⟩
theorem do_any(C:bA->Int×bA)(s:Stp)(files:List Fil)(clock order:List Int)(vf vl vc vo vn:Value)(u0 u1:Int)(w:World)(h:DoIn s files clock order vf vl vc vo vn u0 u1 w)(h5:s.kind≠5):
  Calls Tryz.prog 40 (mW s vf vl vc vo vn u0 u1) w (DoPost w s files u0 u1 (fT C s files clock order u0 u1)):=by
 refine(do_far C s files clock order vf vl vc vo vn u0 u1 w h h5).mono ?_;rintro e w' ⟨hb,h1⟩;refine⟨hb,?_⟩
 cases hr:fT C s files clock order u0 u1 with
 |error c=>rw[hr] at h1;exact h1
 |ok q=>
  obtain⟨text,saw,a,b⟩:=q;rw[hr] at h1;obtain⟨vfl,vsaw,h2,h3,h4,-⟩:=h1;exact⟨vfl,vsaw,h2,h3,h4⟩
def DoAll(C:bA->Int×bA)(s:Stp):Prop:=∀files clock order vf vl vc vo vn u0 u1 w,DoIn s files clock order vf vl vc vo vn u0 u1 w->Calls Tryz.prog 40 (mW s vf vl vc vo vn u0 u1) w (DoFar w s files u0 u1 (fT C s files clock order u0 u1))
theorem doAll_plain{C:bA->Int×bA}{s:Stp}(h5:s.kind≠5):DoAll C s:=fun files clock order vf vl vc vo vn u0 u1 w h=>do_far C s files clock order vf vl vc vo vn u0 u1 w h h5
end Go.Proofs.YtiionicikdnnpaaGreatDoor
