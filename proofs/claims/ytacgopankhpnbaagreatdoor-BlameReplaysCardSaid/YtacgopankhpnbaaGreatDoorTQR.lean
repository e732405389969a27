/- Texts of this seat, joined. -/
import Derived.Test.YtacgopankhpnbaaGreatDoorTQP
import Derived.Deep.AppendLies
import Derived.Test.YtacgopankhpnbaaGreatDoorTQN
set_option maxHeartbeats 2000000
set_option maxRecDepth 100000
set_option linter.unusedVariables false
set_option linter.unusedSimpArgs false
namespace Go.Proofs.YtacgopankhpnbaaGreatDoor
open Go.RowKit
structure DoLoop (w W0 wr:World) (bx k:Nat) (files:List Fil) (kind:Int) (src:List bA) (vf:Value) (out:bA) (sorted:Bool) (vc vo vn vs:Value) (u0 u1:Int) (saw:List bA):Prop where
 boxes:iI w wr kind vf out sorted vc vo vn u0 u1
 sbx:Sbx wr bx vs vc vo vn u0 u1
 own:wr.ownsRow (bx+1) 9 1 vs saw.length (saw.map Value.string)
 only:bS bx W0 wr
 found:(src.take k).map (aI files)=saw.map some
theorem found_snoc{files:List Fil}{src saw:List bA}{k:Nat}{x t:bA}(hx:src[k]? =some x)(ht:aI files x=some t)(h:(src.take k).map (aI files)=saw.map some):
  (src.take (k+1)).map (aI files)=(saw++[t]).map some:=by
 rw[List.take_add_one,hx];simp[h,ht]
theorem sawOf_some{files:List Fil}:∀{src saw:List bA},src.map (aI files)=saw.map some->fT files src=some saw
 |[],[],_=>rfl
 |[],_::_,h=>aBF
 |_::_,[],h=>aBF
 |x::r,t::l,h=>by
  simp at h;rw[fT,h.1,sawOf_some h.2]
theorem sawOf_none{files:List Fil}{x:bA}:∀{src:List bA},x∈src->aI files x=none->fT files src=none
 |y::r,h,hn=>by
  rw[fT];rcases List.mem_cons.1 h with rfl|h
  ·rw[hn]
  rw[sawOf_none h hn];cases aI files y<;>rfl
theorem findFile_mem{files:List Fil}{x t:bA}(h:aI files x=some t):∃f,f∈files/\f.text=t:=by
 unfold aI at h;rw[Option.map_eq_some_iff] at h;obtain⟨f,hf,rfl⟩:=h;exact⟨f,List.mem_of_find?_eq_some hf,rfl⟩
theorem rightFrom_text:∀{l:List Fil}{known:List bA},dQ l known=true->∀f,f∈l->f.text.size<=65536
 |[],_,_,_,h=>aBx
 |g::r,known,h,f,hf=>by
  rw[dQ] at h;split at h
  ·cases h
  rename_i hh;rcases List.mem_cons.1 hf with rfl|hf
  ·simp at hh;exact hh.2
  exact rightFrom_text h f hf
theorem rightFiles_text{l:List Fil}(h:aT l=true):∀f,f∈l->f.text.size<=65536:=by
 simp[aT] at h;exact rightFrom_text h.1
theorem cell_set{w:World}{b b' o o':Nat}{v x:Value}(sC:b≠b')(h:w.cell? ⟨b,o,none⟩=some x):(w.setCell ⟨b',o',none⟩ v).cell? ⟨b,o,none⟩=some x:=
 (World.cell?_of_block (w:=w) (Below.heap_setCell _ _ _ _ sC)).trans h
def Apart(a b:Nat):Prop:=a≠b
theorem Apart.of{a b:Nat}(h:a≠b):Apart a b:=h
theorem cell_set2{w:World}{b b' o o' o'':Nat}{v v' x:Value}(sC:Apart b b')(h:w.cell? ⟨b,o,none⟩=some x):((w.setCell ⟨b',o',none⟩ v).setCell ⟨b',o'',none⟩ v').cell? ⟨b,o,none⟩=some x:=cell_set sC (cell_set sC h)
theorem cell_set2a{w:World}{b o o' o'':Nat}{v v' x:Value}(h:w.cell? ⟨b,o,none⟩=some x):((w.setCell ⟨b+1+1+1,o',none⟩ v).setCell ⟨b+1+1+1,o'',none⟩ v').cell? ⟨b,o,none⟩=some x:=cell_set2 (Apart.of aAM) h
theorem cell_set2b{w:World}{b b' o o' o'':Nat}{v v' x:Value}(sE:b'<b)(h:w.cell? ⟨b,o,none⟩=some x):((w.setCell ⟨b',o',none⟩ v).setCell ⟨b',o'',none⟩ v').cell? ⟨b,o,none⟩=some x:=cell_set2 (Apart.of aAM) h
theorem res_cells'{w:World}{b:Nat}{u v x y:Value}(h0:w.cell? ⟨b,0,none⟩=some x)(h1:w.cell? ⟨b,1,none⟩=some y):
  ((w.setCell ⟨b,0,none⟩ u).setCell ⟨b,1,none⟩ v).cell? ⟨b,0,none⟩=some u/\((w.setCell ⟨b,0,none⟩ u).setCell ⟨b,1,none⟩ v).cell? ⟨b,1,none⟩=some v:=res_cells h0 h1
theorem block_grown{w4 w5 w6:World}{e:TypeId}{size n:Nat}{v:Value}{xs:List Value}{o:Obj}(hb:Below w4.heap.size w4 w5)(hO:w5.ownsRow w4.heap.size e size v n xs)(hg:(w5.alloc o).grownBy w6 v.ownBlock){j:Nat}(hj:j<w4.heap.size):w6.heap[j]? =w4.heap[j]? :=by
 have h5:=hb.size;rw[hg.block j aA0 (fun e=>by have:=(hO.lt j e.symm).1;omega),Below.heap_alloc _ _ _ aAM];exact hb.block j hj
theorem nM{w4 w5 w6:World}{e:TypeId}{size n:Nat}{v:Value}{xs:List Value}{o:Obj}(hb:Below w4.heap.size w4 w5)(hO:w5.ownsRow w4.heap.size e size v n xs)(hg:(w5.alloc o).grownBy w6 v.ownBlock){b j:Nat}{x:Value}(h:w4.cell? ⟨b,j,none⟩=some x):w6.cell? ⟨b,j,none⟩=some x:=
 (World.cell?_of_block (w:=w4) (block_grown hb hO hg (cT h))).trans h
theorem frozen_grown{w4 w5 w6:World}{e:TypeId}{size n:Nat}{v:Value}{xs:List Value}{o:Obj}(hb:Below w4.heap.size w4 w5)(hO:w5.ownsRow w4.heap.size e size v n xs)(hg:(w5.alloc o).grownBy w6 v.ownBlock){b j:Nat}{x:Value}(h:w4.cell? ⟨b,j,none⟩=some x)(hf:w4.frozen? ⟨b,j,none⟩=false):w6.frozen? ⟨b,j,none⟩=false:=
 (World.frozen?_of_block (w:=w4) (block_grown hb hO hg (cT h))).trans hf
theorem below_grown{w4 w5 w6:World}{e:TypeId}{size n:Nat}{v:Value}{xs:List Value}{o:Obj}(hb:Below w4.heap.size w4 w5)(hO:w5.ownsRow w4.heap.size e size v n xs)(hg:(w5.alloc o).grownBy w6 v.ownBlock):Below w4.heap.size w4 w6:=
 ⟨hg.os.trans hb.os,hg.tape.trans hb.tape,hg.output.trans hb.output,by have h1:=hb.size;have h2:=hg.size;simp at h2;omega,fun _ hj=>block_grown hb hO hg hj⟩
theorem below_grown'{w4 w5 w6:World}{e:TypeId}{size n:Nat}{v:Value}{xs:List Value}(hb:Below w4.heap.size w4 w5)(hO:w5.ownsRow (w4.heap.size+1) e size v n xs)(hg:w5.grownBy w6 v.ownBlock):Below w4.heap.size w4 w6:=
 ⟨hg.os.trans hb.os,hg.tape.trans hb.tape,hg.output.trans hb.output,Nat.le_trans hb.size hg.size,fun j hj=>by
  have h5:=hb.size;rw[hg.block j aAM (fun e=>by have:=(hO.lt j e.symm).1;omega)]
  exact hb.block j hj⟩
theorem cloned_late{w4 w5:World}{o:Obj}{e:TypeId}{size n:Nat}{v:Value}{xs:List Value}(sB:w5.ownsRow (w4.alloc o).drew.heap.size e size v n xs)(hb:Below (w4.alloc o).drew.heap.size (w4.alloc o).drew w5):
  Below w4.heap.size w4 w5/\w5.heap[w4.heap.size]? =some o/\w5.ownsRow (w4.heap.size+1) e size v n xs:=by
 have hz:(w4.alloc o).drew.heap.size=w4.heap.size+1:=by show(w4.alloc o).heap.size=_;simp
 rw[hz] at sB hb;exact⟨(aA w4 o).drew.trans (hb.mono aAM),(hb.block _ aAM).trans (aH w4 o),sB⟩
theorem frozen_later{w w':World}(hb:Below w.heap.size w w'){b o:Nat}{v:Value}(h:w.cell? ⟨b,o,none⟩=some v)(hf:w.frozen? ⟨b,o,none⟩=false):w'.frozen? ⟨b,o,none⟩=false:=
 (hb.frozen (p:=⟨b,o,none⟩) (cT h)).trans hf
theorem ownsRow_base{w:World}{base base':Nat}{e:TypeId}{size:Nat}{v:Value}{n:Nat}{xs:List Value}(h:w.ownsRow base e size v n xs)(hb:base'<=base):w.ownsRow base' e size v n xs:=by
 obtain⟨h1,h2⟩:=h;refine⟨h1,?_⟩;rcases h2 with h2|⟨g,cap,cur,hv,hg,r⟩
 ·exact .inl h2
 exact .inr ⟨g,cap,cur,hv,Nat.le_trans hb hg,r⟩
theorem fils_of_owns{w:World}{base:Nat}{e:TypeId}{v:Value}{l:List Fil}(h:w.ownsRow base e 2 v l.length (cG l))(hz:∀f,f∈l->f.name.size<=140737488355328/\f.text.size<=140737488355328):jZ w v l:=by
 rcases h.2 with⟨rfl,h0⟩|⟨g,cap,cur,rfl,hg,yY,r1,r2,r3,r4⟩
 ·exact Y7
 refine⟨_,cap,rfl,r1,r2,fun _=>⟨g,0,rfl,fun i f hf=>⟨[.string f.name,.string f.text],⟨rfl,hz f (List.mem_of_getElem? hf)⟩,rfl,fun j u hu=>?_⟩⟩⟩;have hi:i<l.length:=(Yb.1 hf).1;obtain⟨c1,c2⟩:=filCells_at l i f hf;rw[<-r4,List.getElem?_take,if_pos aAM] at c1;rw[<-r4,List.getElem?_take,if_pos aAM] at c2
 match j,hu with
 |0,hu=>cases hu;simp only[World.cell?,yY];simpa using c1
 |1,hu=>cases hu;simp only[World.cell?,yY];simpa using c2
theorem fils_size{w:World}{v:Value}{l:List Fil}(h:jZ w v l){f:Fil}(hf:f∈l):f.name.size<=140737488355328/\f.text.size<=140737488355328:=by
 rcases h.cases with⟨rfl,-⟩|⟨b,o,c,-,-,-,-,-,hc⟩
 ·cases hf
 obtain⟨i,hi⟩:=List.getElem?_of_mem hf;exact(hc i f hi).2.2
theorem filCells_snoc(l:List Fil)(f:Fil):cG l++[.string f.name,.string f.text]=cG (l++[f]):=by simp[cG]
theorem strs_only{b:Nat}{w w':World}{v:Value}{l:List bA}(h:Strs w v l)(ho:bS b w w')(hb:∀a n c,v=.slice (some a) n c->l≠[]->a.block≠b):Strs w' v l:=by
 obtain⟨a,c,hv,h1,h2,h3⟩:=h;refine⟨a,c,hv,h1,h2,fun sC=>?_⟩;obtain⟨b',o',ha,hc⟩:=h3 sC;refine⟨b',o',ha,fun i x' hx=>?_⟩;obtain⟨cs,e,hl,hj⟩:=hc i x' hx;exact⟨cs,e,hl,fun j u hu=>ho.cell (hb ⟨b',o',none⟩ l.length c (by rw[hv,ha]) sC) (hj j u hu)⟩
theorem ints_off{w:World}{v:Value}{l:List Int}(h:hJ w v l){b:Nat}(hb:w.heap.size<=b):∀a n c,v=.slice (some a) n c->l≠[]->a.block≠b:=by
 intro a n c e sC;rcases h.cases with⟨h0,-⟩|⟨bl,o,c',he,-,-,-,sE,-⟩
 ·exact absurd h0 sC
 rw[e] at he;cases he;simp;omega
theorem saw_text{files:List Fil}{src saw:List bA}{k:Nat}(h:(src.take k).map (aI files)=saw.map some)(ht:∀f,f∈files->f.text.size<=65536):∀x,x∈saw->x.size<=65536:=by
 intro x hx;have:some x∈saw.map some:=List.mem_map_of_mem hx;rw[<-h] at this;obtain⟨y,-,hy⟩:=List.mem_map.1 this;obtain⟨f,hf,rfl⟩:=findFile_mem hy;exact ht f hf
def FarFrom(w:World)(v:Value):Prop:=∀a n c,v=.slice (some a) n c->w.heap.size<=a.block
theorem do_main(s:Stp)(files:List Fil)(clock order:List Int)(vf vl vc vo vn:Value)(u0 u1:Int)(w:World)(h:DoIn s files clock order vf vl vc vo vn u0 u1 w)
  (yC:aM s=true) (yB:aT files=true) (zP:¬min u0 u1<0) (ht:aI files s.out=none) (yD:¬60<=files.length) (R:Ending->World->Prop)
  (S8:fT files s.src=none->∀W',Below w.heap.size w W'->R (.returned (doErr u0 u1 4)) W')
  (WP:List bA->bA->Int->List bA->Int->Int->Prop)
  (hwrite:∀saw,fT files s.src=some saw->∀bx vs W,WriteIn s saw clock order bx vs vc vo vn vf u0 u1 W->Calls Tryz.prog 52 #[.pointer (some ⟨bx,0,none⟩),nY s.kind vf s.out s.sorted] W fun e w'=>
   ∃vs' text err saw' a b,e=.returned (.tuple #[.string text,.int .i64 err])/\Sbx w' bx vs' vc vo vn a b/\StrsOff bx w' vs' saw'/\bS bx W w'/\WP saw text err saw' a b)
  (AJ:∀saw,fT files s.src=some saw->∀text err saw' a b,WP saw text err saw' a b->text.size<=140737488355328/\(err≠0->∀W',Below w.heap.size w W'->R (.returned (doErr u0 u1 err)) W')/\
   (err=0->65536<text.size->∀W',Below w.heap.size w W'->R (.returned (doErr u0 u1 6)) W')/\
   (err=0->¬65536<text.size->∀W' vfl vsaw,Below w.heap.size w W'->jZ W' vfl (eY s files text)->Strs W' vsaw saw'->FarFrom w vfl->(saw'≠[]->FarFrom w vsaw)->R (.returned (.tuple #[vfl,vsaw,.agg #[.int .i64 a,.int .i64 b],.int .i64 0])) W')):
  Calls Tryz.prog 17 (pR s vf vl vc vo vn u0 u1) w R:=by
 have HT:=zh (show lI files s.out=.tuple #[.string ByteArray.empty,.bool false] by unfold lI;rw[ht]);clear ht;have HRT:=zh (rightFiles_text yB);have JW:=zh yC;have LZ:=zh S8;clear S8;have CK:=zh hwrite;clear hwrite;have UN:=zh AJ;clear AJ;obtain⟨i0,hi,tM,sY,sX⟩:=info_parts strInfo;have hminb:decide (min u0 u1<0)=false:=decide_eq_false zP;obtain⟨⟨a1,c1,e1⟩,⟨a2,c2,e2⟩,⟨a3,n3,c3,e3⟩,⟨a4,n4,c4,e4⟩,⟨a5,n5,c5,e5⟩⟩:=oD h
 have HR:Hid (∀W,Below w.heap.size w W->Calls Tryz.prog 24 #[nY s.kind vf s.out s.sorted] W fun e w'=>e=.returned (.bool true)/\Below W.heap.size W w'):=
  zh fun W hb=>yC▸jT s vf W (h.hsrc.later hb) h.hout
 have HF:Hid (∀W,Below w.heap.size w W->Calls Tryz.prog 51 #[vl] W fun e w'=>e=.returned (.bool true)/\Below W.heap.size W w'):=
  zh fun W hb=>yB▸iT files vl W (h.hfil.later hb)
 have OV:Hid (∀W x,Below w.heap.size w W->Calls Tryz.prog 21 #[vl,.string x] W fun e w'=>e=.returned (lI files x)/\Below W.heap.size W w'):=
  zh fun W x hb=>find_any files vl x W (h.hfil.later hb)
 have BJ:=zh h;obtain⟨kind,src,out,sorted⟩:=s;have hu0:=h.hu0;have hu1:=h.hu1;clear h;simp only at e1;subst e1 e2 e3 e4 e5;unfold pR;simp only at HR HF ⊢;have tJ:=iI.made w kind (.slice a1 src.length c1) out sorted (.slice a3 n3 c3) (.slice a4 n4 c4) (.slice a5 n5 c5) u0 u1;have sH:=zh tJ;clear tJ yC yB;simp only at HT LZ CK UN;go_enter Tryz.func17,Tryz.ntmps17;go_wp2_with fail;refine(HR.out _ sH.out.below).mono ?_;rintro e w1 ⟨rfl,sF⟩;have sV:=zh (sH.out.later sF);clear sH sF;go_wp2_with fail;refine(HF.out _ sV.out.below).mono ?_;rintro e w2 ⟨rfl,sD⟩;have sW:=zh (sV.out.later sD);clear sV sD;obtain⟨s0,s1,s2,s3,y0,y1,y2,x0,x1,r0,r1,f0,f1⟩:=sW.out.cells;go_wp2_with fail;refine(OV.out _ _ sW.out.below).mono ?_;rw[HT.out];rintro e w3 ⟨rfl,uA⟩;have wL:=zh (sW.out.later uA);clear sW uA s0 s1 s2 s3 y0 y1 y2 x0 x1 r0 r1 f0 f1;obtain⟨s0,s1,s2,s3,y0,y1,y2,x0,x1,r0,r1,f0,f1⟩:=wL.out.cells;have PE:=(dI JW.out).2.2.1;simp only at PE;have g0:=iR wL.out.bs;have g1:=iR wL.out.bw;have g2:=iR wL.out.bu;have g3:=iR wL.out.br;have hfullb:decide (60<=(files.length:Int))=false:=decide_eq_false aAM;go_wp2_with fail
 have hW0:DoLoop w (w3.alloc (oBx29 none 0 0 a3 n3 c3 a4 n4 c4 a5 n5 c5 u0 u1)) (w3.alloc (oBx29 none 0 0 a3 n3 c3 a4 n4 c4 a5 n5 c5 u0 u1)) w3.heap.size 0 files kind src (.slice a1 src.length c1) out sorted (.slice a3 n3 c3) (.slice a4 n4 c4) (.slice a5 n5 c5) (.slice none 0 0) u0 u1 []:=
  ⟨wL.out.later (aA _ _),aH _ _,World.ownsRow_nil _ _ _ _,bS.refl _ _,rfl⟩
 have NO:w.heap.size+1+1+1<w3.heap.size:=g3;have RI:(w3.alloc (oBx29 none 0 0 a3 n3 c3 a4 n4 c4 a5 n5 c5 u0 u1)).heap.size=w3.heap.size+1:=aAQ;clear s0 s1 s2 s3 y0 y1 y2 x0 x1 r0 r1 f0 f1 g0 g1 g2 g3 wL HR HF HT;generalize w3.alloc (oBx29 none 0 0 a3 n3 c3 a4 n4 c4 a5 n5 c5 u0 u1)=W0 at hW0 RI ⊢;generalize w3.heap.size=bx at hW0 RI NO ⊢;have HW0:=zh hW0;clear hW0;have HWs:=zh RI;clear RI;go_loopw [58] (fun i wr=>∃(k:Nat)(vs:Value)(saw:List bA),k<=src.length/\i=.int .i64 k/\DoLoop w W0 wr bx k files kind src (.slice a1 src.length c1) out sorted (.slice a3 n3 c3) (.slice a4 n4 c4) (.slice a5 n5 c5) vs u0 u1 saw) (fun i _=>src.length-(intOf i).toNat)
 case atStart=>exact⟨0,_,[],Nat.zero_le _,rfl,HW0.out⟩
 case round=>
  clear HW0;obtain⟨k,vs,saw,hk,rfl,hL⟩:=hrel;have HL:=zh hL;obtain⟨hB,hS,hO,hOn,hFo⟩:=hL;have HO:=zh hO;have LC:=zh hFo;obtain⟨s0,s1,s2,s3,y0,y1,y2,x0,x1,r0,r1,f0,f1⟩:=hB.cells;have c0:=hS.cell 0;have q0:=hS.frozen 0;simp only[List.getElem?_toArray,List.getElem?_cons_zero] at c0;have tP:=zh hB.below;have hlw:=hB.below.size;have uZ:=hS.lt;have HB:=zh hB;have HS:=zh hS;clear hB hS hO hFo;by_cases sE:k<src.length
  ·rcases BJ.out.hsrc.cases with⟨h0,-⟩|⟨bl,ol,cl,he,-,-,-,-,wC⟩
   ·simp only at h0;rw[h0] at sE;simp at sE
   simp only at he wC;(injection he with FF BS TQ);subst FF TQ;obtain⟨x,hx,EY⟩:=getElem?_of_lt sE;have tH:=aC tP.out (wC k x hx).1;have HX:=zh hx;clear wC hx BS
   cases hf:aI files x with
   |none=>
    have XK:=zh (show lI files x=.tuple #[.string ByteArray.empty,.bool false] by unfold lI;rw[hf]);have HFN:=zh (sawOf_none EY hf);clear hf EY;go_wp2_with fail;refine(OV.out _ _ tP.out).mono ?_;rw[XK.out];rintro e w4 ⟨rfl,yM⟩;clear s0 s1 s2 s3 y0 y1 y2 x0 x1 r0 r1 f0 f1 c0 q0;have xJ:=zh (HB.out.later yM);obtain⟨s0,s1,s2,s3,y0,y1,y2,x0,x1,r0,r1,f0,f1⟩:=xJ.out.cells;go_wp2_with fail;(go_region);go_wp2_with fail;exact xJ.out.err rfl rfl rfl rfl rfl (LZ.out HFN.out)
   |some t=>
    have XK:=zh (show lI files x=.tuple #[.string t,.bool true] by unfold lI;rw[hf]);have BB:=zh (found_snoc HX.out hf LC.out);clear hf EY;go_wp2_with fail;refine(OV.out _ _ tP.out).mono ?_;rw[XK.out];rintro e w4 ⟨rfl,yM⟩;have hbl4:=yM.size;have R4:=zh (HS.out.later yM);have JX:=zh (HO.out.kept (row:=none) ⟨yM.os,yM.tape,yM.output,yM.size,fun k hk _=>yM.block k hk⟩ (Classical.em _));have xJ:=zh (HB.out.later yM);have HOn4:=zh (hOn.trans (bS.of_below yM));(have JB:saw.length=k:=by have:=congrArg List.length LC.out;simp at this;omega);have hsl2:saw.length<=60:=aAM;clear JB s0 s1 s2 s3 y0 y1 y2 x0 x1 r0 r1 f0 f1 c0 q0 yM tH HS HO HB hOn;have kk4:=R4.out.cell 0;have q4:=R4.out.frozen 0;simp only[List.getElem?_toArray,List.getElem?_cons_zero] at kk4;have hbl4':bx<w4.heap.size:=R4.out.lt;go_wp2_with(at_builtin;refine wpList_append_own _ rfl _ _ 22 rfl (bx+1) 9 i0 (.string ByteArray.empty) 1 16 Tryz.underlying22 hi tM sY sX rfl aAO _ _ _ rfl (JX.out.alloc _) ⟨w4.heap.size,0,none⟩ 1 1 [.string t] rfl rfl (cell_one_new _ _ _) aA1 aAY aAM aA0 ?_);intro v' w5 xL sA _;(have BO:w4.heap.size+1<=w5.heap.size:=by have:=sA.size;simpa using this);have tF:∀j,vs.ownBlock=some j->bx+1<=j:=fun j e=>(JX.out.lt j e).1
    have NP:∀j,j<w4.heap.size->j<=bx->w5.heap[j]? =w4.heap[j]? :=fun j hj hjb=>by
     rw[sA.block j aA0 (fun e=>by have:=tF j e.symm;omega),Below.heap_alloc _ _ _ hj]
    have K5:=zh (R4.out.of_block (NP bx hbl4' (Nat.le_refl _)));have kk5:=K5.out.cell 0;have q5:=K5.out.frozen 0;simp only[List.getElem?_toArray,List.getElem?_cons_zero] at kk5;obtain⟨g',cap',rfl⟩:=ownsRow_succ xL;have vT:=zh xL;have hg5:=(xL.lt g' rfl).1;have HG5:=zh sA;have GJ:=zh NP;clear xL sA NP tF;go_wp2_with fail;go_roundw
    case rel=>
     refine⟨k+1,.slice (some ⟨g',0,none⟩) (saw.length+1) cap',saw++[t],aAM,aAV,?_⟩;have NN:=iR xJ.out.br
     have hOn5:bS bx W0 (w5.setCell ⟨bx,0,none⟩ (.slice (some ⟨g',0,none⟩) (saw.length+1) cap')):=by
      refine bS.trans ?_ (bS.setCell w5);have hw:=HWs.out;have h1:=HOn4.out;refine⟨HG5.out.os.trans h1.os,HG5.out.tape.trans h1.tape,HG5.out.output.trans h1.output,by have:=h1.size;omega,fun j hj sC=>?_⟩;rw[GJ.out j (by have:=h1.size;omega) aAM];exact h1.block j hj sC
     refine⟨⟨?_,?_,?_,?_,?_⟩,K5.out.saw0 _,?_,hOn5,BB.out⟩
     ·rw[Below.heap_setCell _ _ _ _ aA0,GJ.out _ aAM aAM];exact xJ.out.bs
     ·rw[Below.heap_setCell _ _ _ _ aA0,GJ.out _ aAM aAM];exact xJ.out.bw
     ·rw[Below.heap_setCell _ _ _ _ aA0,GJ.out _ aAM aAM];exact xJ.out.bu
     ·rw[Below.heap_setCell _ _ _ _ aA0,GJ.out _ aAM aAM];exact xJ.out.br
     ·have hb:=xJ.out.below;refine(Below.setCell ⟨HG5.out.os.trans hb.os,HG5.out.tape.trans hb.tape,HG5.out.output.trans hb.output,by have:=hb.size;omega,fun j hj=>?_⟩ aA0 _);rw[GJ.out j aAM aAM];exact hb.block j hj
     have:=ownsRow_setCell_below vT.out (a:=⟨bx,0,none⟩) aAQ (.slice (some ⟨g',0,none⟩) (saw.length+1) cap');simpa using this
    case measure=>simp[intOf];omega
  have CP:k=src.length:=aAM;have HFa:=zh (sawOf_some (src:=src) (saw:=saw) (by have:=LC.out;rwa [List.take_of_length_le aAM] at this));have JB:saw.length=src.length:=by have:=congrArg List.length LC.out;simp at this;omega
  have hbxw:∀{v:Value}{j:Nat},j<w.heap.size->j≠bx:=fun h e=>aAM
  have K0:WriteIn ⟨kind,src,out,sorted⟩ saw clock order bx vs (.slice a3 n3 c3) (.slice a4 n4 c4) (.slice a5 n5 c5) (.slice a1 src.length c1) u0 u1 wr:=by
   have hD:=BJ.out;have hx:=HRT.out;refine⟨hD.hglob.later tP.out,by have:=hD.hglob.big;omega,HS.out,⟨strs_of_owns HO.out (fun x hx'=>?_),fun a n c e _=>?_⟩,⟨hD.hclk.later tP.out,ints_off hD.hclk aAM⟩,⟨hD.hord.later tP.out,ints_off hD.hord aAM⟩,hD.hsrc.later tP.out,JW.out,fun x hx'=>?_,JB,⟨aAM,hu0.2⟩,⟨aAM,hu1.2⟩,hD.hcwf,hD.howf⟩
   ·have:=saw_text LC.out hx x hx';omega
   ·have:=owns_block HO.out (Nat.le_refl _) a n c e;omega
   exact saw_text LC.out hx x hx'
  have HWc:=zh (CK.out saw HFa.out bx vs wr K0);have HEe:=zh (UN.out saw HFa.out);clear K0 JB CK UN LZ OV CP hbxw;go_wp2_with fail;refine HWc.out.mono ?_;rintro e w4 ⟨vs',text,err,saw',ua,ub,rfl,hS4,A3,hO4,hP⟩;obtain⟨ht47,FF,BS,TQ⟩:=HEe.out text err saw' ua ub hP;have HE1:=zh FF;have AW:=zh BS;have HE3:=zh TQ;have xJ:=zh (HB.out.only hO4 NO);have R4:=zh hS4;have HT4:=zh A3;clear s0 s1 s2 s3 y0 y1 y2 x0 x1 r0 r1 f0 f1 c0 q0 FF BS TQ hS4 A3 hO4 hP HEe HWc HB HS;obtain⟨s0,s1,s2,s3,y0,y1,y2,x0,x1,r0,r1,f0,f1⟩:=xJ.out.cells;by_cases NI:err=0
  ·subst NI;by_cases tC:65536<text.size
   ·go_wp2_with fail;(go_region);go_wp2_with fail;exact xJ.out.err rfl rfl rfl rfl rfl (AW.out trivial tC)
   obtain⟨m0,U6,tJ,zQ,TB⟩:=info_parts filInfo;have v0:w4.cell? ⟨bx,0,none⟩=some vs':=R4.out.cell 0;have v4:w4.cell? ⟨bx,4,none⟩=some (.int .i64 ua):=R4.out.cell 4;have v5:w4.cell? ⟨bx,5,none⟩=some (.int .i64 ub):=R4.out.cell 5;have hb4w:=xJ.out.below;have HFl:=zh (BJ.out.hfil.later hb4w);have HFA:Hid (jZ (w4.alloc (pJ out text)).drew (.slice a2 files.length c2) files):=zh (HFl.out.later (aA w4 _).drew);have hbx4:bx<w4.heap.size:=R4.out.lt;have CA:Hid (∀W,jZ W (.slice a2 files.length c2) files->Calls Tryz.prog 53 #[.slice a2 files.length c2] W fun e w'=>∃v',e=.returned v'/\w'.ownsRow W.heap.size 40 2 v' files.length (cG files)/\Below W.heap.size W w'):=zh fun W hW=>clone_any files _ W hW aAM;have RD:files.length<=60:=aAM;(obtain⟨va,vnn,vcc,hvs'⟩:∃a n c,vs'=.slice a n c:=by obtain⟨a,c,e,-⟩:=HT4.out.1;exact⟨a,_,c,e⟩);subst hvs';clear HE1 AW s0 s1 s3 y0 y1 y2 x0 x1 hb4w;go_wp2_with fail
   go_region_held3 (fun W=>W.cell? ⟨w.heap.size,2,none⟩=some (.string out)/\W.cell? ⟨bx,0,none⟩=some (.slice va vnn vcc)/\W.cell? ⟨bx,4,none⟩=some (.int .i64 ua)/\W.cell? ⟨bx,5,none⟩=some (.int .i64 ub))
    (first|exact⟨l0,l1,l2,l3⟩|exact⟨aC (aA _ _) j0,aC (aA _ _) j1,aC (aA _ _) j2,aC (aA _ _) j3⟩|exact⟨j0,j1,j2,j3⟩|exact⟨s2,v0,v4,v5⟩|(refine⟨cell_set2a ?_,cell_set2b NO ?_,cell_set2b NO ?_,cell_set2b NO ?_⟩<;>assumption)|go_keep)
    (first|(go_at_call 53;refine(CA.out _ (by exact HFl.out)).mono ?_;rintro e w5 ⟨vcl,rfl,xL,hb5⟩;have yH:Below w4.heap.size w4 w5:=(Below.refl _ w4).drew.trans hb5;have j0:=aC yH s2;have j1:=aC yH v0;have j2:=aC yH v4;have j3:=aC yH v5;have vT:=zh xL;have xB:=zh yH;clear xL hb5 yH)|(have _g:=vT;show(if _ then _ else _);go_must (refine step_append_lies (w5.alloc (pJ out text)) ?y1 (.tmp 100) (.tmp 105) 25 ?y2 w4.heap.size 40 m0 (.agg #[.string ByteArray.empty,.string ByteArray.empty]) 2 32 Tryz.underlying25 U6 tJ zQ TB ?y8 ?y6 vcl files.length (cG files) ?y3 ?z1 ⟨w5.heap.size,0,none⟩ 1 1 [.string out,.string text] ?y4 ?y5 ?z2 ?z3 ?y7 ?z4 ?z5 ?z6 (w5.heap.size+1) ?z7 ?z8);go_must (case y1=>rfl);go_must (case y2=>rfl);go_must (case y8=>rfl);go_must (case y3=>rfl);go_must (case y4=>rfl);go_must (case y5=>rfl);go_must (case y6=>omega);go_must (case y7=>omega);go_must (case z1=>exact vT.out.alloc _);go_must (case z2=>exact World.news_of_block (cs:=#[.string out,.string text]) (t:=40) (fr:=(0,0)) (bY w5 _));go_must (case z3=>simp[Value.oneCell']);go_must (case z4=>(unfold maxLen;omega));go_must (case z5=>omega);go_must (case z6=>(have:=xB.out.size;simp;omega));go_must (case z7=>simp);go_must (intro gg cap w6 tK sA sM hlt6);go_must (have l0:=nM xB.out vT.out sA s2);go_must (have l1:=nM xB.out vT.out sA v0);go_must (have l2:=nM xB.out vT.out sA v4);go_must (have l3:=nM xB.out vT.out sA v5);go_must (have l4:=nM xB.out vT.out sA r0);go_must (have l5:=nM xB.out vT.out sA r1);go_must (have l6:=frozen_grown xB.out vT.out sA r0 f0);go_must (have l7:=frozen_grown xB.out vT.out sA r1 f1);have EU:=zh tK;have SL:=zh (below_grown xB.out vT.out sA);clear tK sA sM)|(go_at_call 53;show Calls _ _ _ (World.drew (World.alloc w4 (pJ out text))) _;go_must (refine(CA.out _ (HFA.out)).mono ?_);go_must (rintro e w5 ⟨vcl,rfl,xL,hb5⟩);go_must (obtain⟨yH,HNB',UI⟩:=cloned_late xL hb5);go_must (have j0:=aC yH s2);go_must (have j1:=aC yH v0);go_must (have j2:=aC yH v4);go_must (have j3:=aC yH v5);have HNB:=zh HNB';have W9:=zh UI;have xB:=zh yH;clear xL hb5 yH HNB' UI)|(have _g:=W9;show(if _ then _ else _);go_must (refine step_append_lies w5 ?x1 (.tmp 100) (.tmp 105) 25 ?x2 (w4.heap.size+1) 40 m0 (.agg #[.string ByteArray.empty,.string ByteArray.empty]) 2 32 Tryz.underlying25 U6 tJ zQ TB ?x8 ?x6 vcl files.length (cG files) ?x3 ?x9 ⟨w4.heap.size,0,none⟩ 1 1 [.string out,.string text] ?x4 ?x5 ?t2 ?t3 ?x7 ?t4 ?t5 ?t6 w5.heap.size ?t7 ?t8);go_must (case x1=>rfl);go_must (case x2=>rfl);go_must (case x8=>rfl);go_must (case x3=>rfl);go_must (case x4=>rfl);go_must (case x5=>rfl);go_must (case x6=>omega);go_must (case x7=>omega);go_must (case x9=>exact W9.out);go_must (case t2=>exact World.news_of_block (cs:=#[.string out,.string text]) (t:=40) (fr:=(0,0)) HNB.out);go_must (case t3=>simp[Value.oneCell']);go_must (case t4=>(unfold maxLen;omega));go_must (case t5=>omega);go_must (case t6=>(have:=iR HNB.out;omega));go_must (case t7=>rfl);go_must (intro gg cap w6 tK sA sM hlt6);go_must (have vY:=below_grown' xB.out W9.out sA);go_must (have l0:=aC vY s2);go_must (have l1:=aC vY v0);go_must (have l2:=aC vY v4);go_must (have l3:=aC vY v5);go_must (have l4:=aC vY r0);go_must (have l5:=aC vY r1);go_must (have l6:=frozen_later vY r0 f0);go_must (have l7:=frozen_later vY r1 f1);have EU:=zh (ownsRow_base tK (Nat.le_succ _));have SL:=zh vY;clear tK sA sM vY))
   all_goals
    go_wp2_with fail;have hr:=res_cells' (w:=w6) (b:=w.heap.size+1+1+1) (u:=.int .i64 ua) (v:=.int .i64 ub) l4 l5;refine bodyPost_ret (v:=.tuple #[.slice (some ⟨gg,0,none⟩) (files.length+1) cap,.slice va vnn vcc,.agg #[.int .i64 ua,.int .i64 ub],.int .i64 0]) (by simp[results,Tryz.results17,go_sem,hr.1,hr.2]) rfl ?_;have vY:=SL.out;have hg6:=(EU.out.lt gg rfl).1;have NN:=iR xJ.out.br;have QP:Below w4.heap.size w4 w6:=vY;have hbw4:=xJ.out.below.size;have hbxw:=NO;refine HE3.out trivial aAM _ _ _ ?_ ?_ ?_ (fun a n c e=>by cases e;exact Nat.le_trans hbw4 hg6) (fun sC a n c e=>by have:=HT4.out.2 a n c e sC;omega)
    ·exact((xJ.out.below.trans (vY.mono (by have:=xJ.out.below.size;omega))).setCell aA0 _).setCell aA0 _
    ·have sB:=ownsRow_setCell_below (ownsRow_setCell_below EU.out (a:=⟨w.heap.size+1+1+1,0,none⟩) aA0 (.int .i64 ua)) (a:=⟨w.heap.size+1+1+1,1,none⟩) aA0 (.int .i64 ub);rw[filCells_snoc files ⟨out,text⟩] at sB;refine fils_of_owns (l:=eY ⟨kind,src,out,sorted⟩ files text) (by simpa[eY] using sB) (fun f hf=>?_);simp only[eY,List.mem_append,List.mem_singleton] at hf;rcases hf with hf|rfl
     ·exact fils_size HFl.out hf
     exact⟨BJ.out.hout,ht47⟩
    have h4:=HT4.out.1.later QP;exact strs_only h4 ((bS.setCell _).trans (bS.setCell _)) (fun a n c e sC=>by have:=HT4.out.2 a n c e sC;omega)
  have ES:(err==0)=false:=beq_eq_false_iff_ne.2 NI;have sF:(err != 0)=true:=by rw[bne_iff_ne];exact NI
  have HEr:=zh NI;clear NI;go_wp2_with fail;go_region
  go_wp2_with fail;exact xJ.out.err rfl rfl rfl rfl rfl (HE1.out HEr.out)
theorem Z3{p:Prop}(h:p:=by
 rintro e w' ⟨rfl,hb⟩
 exact⟨hb,rfl⟩):p:=h
def DoFar(w:World)(s:Stp)(files:List Fil)(u0 u1:Int)(r:DoRes)(e:Ending)(w':World):Prop:=
 Below w.heap.size w w'/\match r with
  | .error c=>e=.returned (doErr u0 u1 c)
  | .ok (text,saw,a,b)=>∃vfl vsaw,e=.returned (.tuple #[vfl,vsaw,.agg #[.int .i64 a,.int .i64 b],.int .i64 0])/\jZ w' vfl (eY s files text)/\Strs w' vsaw saw/\FarFrom w vfl/\(saw≠[]->FarFrom w vsaw)
theorem sawOf_texts{files:List Fil}(ht:∀f,f∈files->f.text.size<=65536):∀{src saw:List bA},fT files src=some saw->(∀x,x∈saw->x.size<=65536)/\saw.length=src.length
 |[],saw,h=>by cases h;simp
 |y::r,saw,h=>by
  rw[fT] at h;split at h
  ·rename_i t l hf hr;cases h;obtain⟨h1,h2⟩:=sawOf_texts ht hr;refine⟨fun x hx=>?_,by simp[h2]⟩;rcases List.mem_cons.1 hx with rfl|hx
   ·obtain⟨f,LN,rfl⟩:=findFile_mem hf;exact ht f LN
   exact h1 x hx
  cases h
theorem size_toArray(l:List UInt8):(⟨l.toArray⟩:bA).size=l.length:=by show l.toArray.size=_;simp
theorem writeStep_size{s:Stp}{saw:List bA}{clock order:List Int}{u0 u1:Int}(hr:aM s=true)(ht:∀x,x∈saw->x.size<=65536)(hl:saw.length=s.src.length)(hc:∀x,x∈clock->(Lit.int .i64 x).wf=true):
  (bE s saw clock order u0 u1).1.size<=140737488355328:=by
 obtain⟨hn,hout,hlen,hk⟩:=dI hr;have tI:∀x,x∈s.src->x.size<=20:=fun x hx=>isName_size (hn x hx)
 have TN:(saw.headD ByteArray.empty).size<=65536:=by
  cases saw with
  |nil=>decide
  |cons x l=>exact ht x aAQ
 unfold bE;split
 ·have:=join_length saw 65536 ht;show(⟨(Lib.join _ []).toArray⟩:bA).size<=_;rw[size_toArray];refine Nat.le_trans this ?_;have:saw.length*65536<=60*65536:=Nat.mul_le_mul aAM (Nat.le_refl _);omega
 split
 ·show(⟨(jM _).toArray⟩:bA).size<=_;rw[size_toArray];exact rB _ TN
 split
 ·show((_++_)++_:bA).size<=_
  have SV:(Lit.int .i64 (clock.getD u0.toNat 0)).wf=true:=by
   rw[List.getD_eq_getElem?_getD]
   cases hh:clock[u0.toNat]? with
   |none=>rfl
   |some y=>exact hc y (List.mem_of_getElem? hh)
  obtain⟨b0,b1⟩:=i64_bounds SV;have:=wireInt_size _ b0 b1;rw[ByteArray.size_append,ByteArray.size_append];have h1:(⟨#[10]⟩:bA).size=1:=rfl;omega
 split
 ·show(⟨(jM _).toArray⟩:bA).size<=_;rw[size_toArray];have:=mN (fQ s.src) 20 (fun x hx=>tI x (mC hx));rw[fM] at this;omega
 show(⟨(jM _).toArray⟩:bA).size<=_;rw[size_toArray];have h1:=mN (eT order s.src.length u1.toNat (fQ s.src)) 20 (fun x hx=>tI x (mC (qL hx)));have h2:=pE order s.src.length u1.toNat (fQ s.src);have h3:(eT order s.src.length u1.toNat (fQ s.src)).length*(20+1)<=60*21:=Nat.mul_le_mul aAM aAM;omega
theorem do_far(C:bA->Int×bA)(s:Stp)(files:List Fil)(clock order:List Int)(vf vl vc vo vn:Value)(u0 u1:Int)(w:World)(h:DoIn s files clock order vf vl vc vo vn u0 u1 w)(h5:s.kind≠5):
  Calls Tryz.prog 17 (pR s vf vl vc vo vn u0 u1) w (DoFar w s files u0 u1 (cH C s files clock order u0 u1)):=by
 by_cases tL:aM s=false\/aT files=false\/min u0 u1<0
 ·have e:cH C s files clock order u0 u1=.error 1:=by
   unfold cH;rw[if_pos];rcases tL with h|h|h<;>simp[h]
  rw[e];refine(do_arg s files clock order vf vl vc vo vn u0 u1 w h tL).mono ?_;exact Z3
 have yC:aM s=true:=aDb;have yB:aT files=true:=aCD;have zP:¬min u0 u1<0:=fun hh=>tL (.inr (.inr hh))
 have e0:cH C s files clock order u0 u1=if(aI files s.out).isSome then .error 5 else if 60<=files.length then .error 6
   else match fT files s.src with|none=>.error 4|some saw=>if 65536<(bE s saw clock order u0 u1).1.size then .error 6 else .ok (bE s saw clock order u0 u1):=by
  unfold cH;rw[if_neg (by simp[yC,yB,decide_eq_false zP])];split
  ·rfl
  split
  ·rfl
  cases fT files s.src with
  |none=>rfl
  |some saw=>simp only
 rw[e0]
 cases hf:aI files s.out with
 |some t=>
  simp only[Option.isSome_some,if_true];refine(do_twice s files clock order vf vl vc vo vn u0 u1 w h yC yB zP t hf).mono ?_;exact Z3
 |none=>
  simp only[Option.isSome_none,Bool.false_eq_true,if_false];by_cases yD:60<=files.length
  ·rw[if_pos yD];refine(do_full s files clock order vf vl vc vo vn u0 u1 w h yC yB zP hf yD).mono ?_;exact Z3
  rw[if_neg yD]
  refine do_main s files clock order vf vl vc vo vn u0 u1 w h yC yB zP hf yD _ (fun hs W' hW=>?_)
   (fun saw text err saw' a b=>err=0/\(text,saw',a,b)=bE s saw clock order u0 u1) (fun saw hs bx vs W K0=>?_) (fun saw hs text err saw' a b hP=>?_)
  ·rw[hs];exact⟨hW,rfl⟩
  ·refine(write_any s saw clock order bx vs vc vo vn vf u0 u1 W K0 h5).mono ?_;rintro e w' ⟨vs',rfl,h1,h2,h3⟩;exact⟨vs',_,0,_,_,_,rfl,h1,h2,h3,rfl,rfl⟩
  obtain⟨rfl,hw⟩:=hP;obtain⟨ht,hl⟩:=sawOf_texts (rightFiles_text yB) hs;have tI:=writeStep_size (order:=order) (u0:=u0) (u1:=u1) yC ht hl h.hcwf;rw[hs];simp only;rw[<-hw] at tI ⊢;refine⟨tI,fun h=>absurd rfl h,fun _ tC W' hW=>?_,fun _ tC W' vfl vsaw hW h1 h2 h3 h4=>?_⟩
  ·rw[if_pos tC];exact⟨hW,rfl⟩
  rw[if_neg tC];exact⟨hW,vfl,vsaw,rfl,h1,h2,h3,h4⟩
end Go.Proofs.YtacgopankhpnbaaGreatDoor
