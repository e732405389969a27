/- Texts of this seat, joined. -/
import Derived.Test.YtacgopankhpnbaaGreatDoorZr
import Derived.Deep.AppendLies
import Derived.Test.YtacgopankhpnbaaGreatDoorKM
namespace Go.Proofs.YtacgopankhpnbaaGreatDoor
set_option maxHeartbeats 2000000
set_option maxRecDepth 100000
open Go.RowKit
structure DoLoop (w W0 wr:World) (bx k:Nat) (files:List Fil) (kind:Int) (src:List ByteArray) (vf:Value) (out:ByteArray) (sorted:Bool) (vc vo vn vs:Value) (u0 u1:Int) (saw:List ByteArray):Prop where
 boxes:iG w wr kind vf out sorted vc vo vn u0 u1
 sbx:Sbx wr bx vs vc vo vn u0 u1
 own:wr.ownsRow (bx+1) 9 1 vs saw.length (saw.map Value.string)
 only:bU bx W0 wr
 found:(src.take k).map (aI files)=saw.map some
theorem found_snoc{files:List Fil}{src saw:List ByteArray}{k:Nat}{x t:ByteArray}(hx:src[k]? =some x)(ht:aI files x=some t)(h:(src.take k).map (aI files)=saw.map some):
  (src.take (k+1)).map (aI files)=(saw++[t]).map some:=by
 rw[List.take_add_one,hx];simp[h,ht]
theorem sawOf_some{files:List Fil}:∀{src saw:List ByteArray},src.map (aI files)=saw.map some->eT files src=some saw
 |[],[],_=>rfl
 |[],_::_,h=>yL
 |_::_,[],h=>yL
 |x::r,t::l,h=>by
  simp at h;rw[eT,h.1,sawOf_some h.2]
theorem sawOf_none{files:List Fil}{x:ByteArray}:∀{src:List ByteArray},x∈src->aI files x=none->eT files src=none
 |y::r,h,hn=>by
  rw[eT];rcases List.mem_cons.1 h with rfl|h
  ·rw[hn]
  ·rw[sawOf_none h hn];cases aI files y<;>rfl
theorem findFile_mem{files:List Fil}{x t:ByteArray}(h:aI files x=some t):∃f,f∈files/\f.text=t:=by
 unfold aI at h;rw[Option.map_eq_some_iff] at h;obtain⟨f,hf,rfl⟩:=h;exact⟨f,List.mem_of_find?_eq_some hf,rfl⟩
theorem rightFrom_text:∀{l:List Fil}{aO:List ByteArray},dN l aO=true->∀f,f∈l->f.text.size<=65536
 |[],_,_,_,h=>yG
 |g::r,aO,h,f,hf=>by
  rw[dN] at h;split at h
  ·cases h
  ·rename_i hh;rcases List.mem_cons.1 hf with rfl|hf
   ·simp at hh;exact hh.2
   ·exact rightFrom_text h f hf
theorem rightFiles_text{l:List Fil}(h:aR l=true):∀f,f∈l->f.text.size<=65536:=by
 simp[aR] at h;exact rightFrom_text h.1
theorem cell_set{w:World}{b b' o o':Nat}{v x:Value}(hne:b≠b')(h:w.cell? ⟨b,o,none⟩=some x):(w.setCell ⟨b',o',none⟩ v).cell? ⟨b,o,none⟩=some x:=
 (World.cell?_of_block (w:=w) (Below.heap_setCell _ _ _ _ hne)).trans h
def Apart(a b:Nat):Prop:=a≠b
theorem Apart.of{a b:Nat}(h:a≠b):Apart a b:=h
theorem cell_set2{w:World}{b b' o o' o'':Nat}{v v' x:Value}(hne:Apart b b')(h:w.cell? ⟨b,o,none⟩=some x):((w.setCell ⟨b',o',none⟩ v).setCell ⟨b',o'',none⟩ v').cell? ⟨b,o,none⟩=some x:=cell_set hne (cell_set hne h)
theorem cell_set2a{w:World}{b o o' o'':Nat}{v v' x:Value}(h:w.cell? ⟨b,o,none⟩=some x):((w.setCell ⟨b+1+1+1,o',none⟩ v).setCell ⟨b+1+1+1,o'',none⟩ v').cell? ⟨b,o,none⟩=some x:=cell_set2 (Apart.of vT) h
theorem cell_set2b{w:World}{b b' o o' o'':Nat}{v v' x:Value}(hlt:b'<b)(h:w.cell? ⟨b,o,none⟩=some x):((w.setCell ⟨b',o',none⟩ v).setCell ⟨b',o'',none⟩ v').cell? ⟨b,o,none⟩=some x:=cell_set2 (Apart.of vT) h
theorem res_cells'{w:World}{b:Nat}{u v x y:Value}(h0:w.cell? ⟨b,0,none⟩=some x)(h1:w.cell? ⟨b,1,none⟩=some y):
  ((w.setCell ⟨b,0,none⟩ u).setCell ⟨b,1,none⟩ v).cell? ⟨b,0,none⟩=some u/\((w.setCell ⟨b,0,none⟩ u).setCell ⟨b,1,none⟩ v).cell? ⟨b,1,none⟩=some v:=res_cells h0 h1
theorem block_grown{w4 w5 w6:World}{e:TypeId}{size n:Nat}{v:Value}{xs:List Value}{o:Obj}(hb:Below w4.heap.size w4 w5)(hO:w5.ownsRow w4.heap.size e size v n xs)(hg:(w5.alloc o).grownBy w6 v.ownBlock){j:Nat}(hj:j<w4.heap.size):w6.heap[j]? =w4.heap[j]? :=by
 have h5:=hb.size;rw[hg.block j wQ (fun e=>by have:=(hO.lt j e.symm).1;omega),Below.heap_alloc _ _ _ vT];exact hb.block j hj
theorem mT{w4 w5 w6:World}{e:TypeId}{size n:Nat}{v:Value}{xs:List Value}{o:Obj}(hb:Below w4.heap.size w4 w5)(hO:w5.ownsRow w4.heap.size e size v n xs)(hg:(w5.alloc o).grownBy w6 v.ownBlock){b j:Nat}{x:Value}(h:w4.cell? ⟨b,j,none⟩=some x):w6.cell? ⟨b,j,none⟩=some x:=
 (World.cell?_of_block (w:=w4) (block_grown hb hO hg (dC h))).trans h
theorem frozen_grown{w4 w5 w6:World}{e:TypeId}{size n:Nat}{v:Value}{xs:List Value}{o:Obj}(hb:Below w4.heap.size w4 w5)(hO:w5.ownsRow w4.heap.size e size v n xs)(hg:(w5.alloc o).grownBy w6 v.ownBlock){b j:Nat}{x:Value}(h:w4.cell? ⟨b,j,none⟩=some x)(hf:w4.frozen? ⟨b,j,none⟩=false):w6.frozen? ⟨b,j,none⟩=false:=
 (World.frozen?_of_block (w:=w4) (block_grown hb hO hg (dC h))).trans hf
theorem below_grown{w4 w5 w6:World}{e:TypeId}{size n:Nat}{v:Value}{xs:List Value}{o:Obj}(hb:Below w4.heap.size w4 w5)(hO:w5.ownsRow w4.heap.size e size v n xs)(hg:(w5.alloc o).grownBy w6 v.ownBlock):Below w4.heap.size w4 w6:=
 ⟨hg.os.trans hb.os,hg.tape.trans hb.tape,hg.output.trans hb.output,by have h1:=hb.size;have h2:=hg.size;simp at h2;omega,fun _ hj=>block_grown hb hO hg hj⟩
theorem below_grown'{w4 w5 w6:World}{e:TypeId}{size n:Nat}{v:Value}{xs:List Value}(hb:Below w4.heap.size w4 w5)(hO:w5.ownsRow (w4.heap.size+1) e size v n xs)(hg:w5.grownBy w6 v.ownBlock):Below w4.heap.size w4 w6:=
 ⟨hg.os.trans hb.os,hg.tape.trans hb.tape,hg.output.trans hb.output,Nat.le_trans hb.size hg.size,fun j hj=>by
  have h5:=hb.size;rw[hg.block j vT (fun e=>by have:=(hO.lt j e.symm).1;omega)]
  exact hb.block j hj⟩
theorem cloned_late{w4 w5:World}{o:Obj}{e:TypeId}{size n:Nat}{v:Value}{xs:List Value}(hown:w5.ownsRow (w4.alloc o).drew.heap.size e size v n xs)(hb:Below (w4.alloc o).drew.heap.size (w4.alloc o).drew w5):
  Below w4.heap.size w4 w5/\w5.heap[w4.heap.size]? =some o/\w5.ownsRow (w4.heap.size+1) e size v n xs:=by
 have hz:(w4.alloc o).drew.heap.size=w4.heap.size+1:=by show(w4.alloc o).heap.size=_;simp
 rw[hz] at hown hb;exact⟨(aA w4 o).drew.trans (hb.mono vT),(hb.block _ vT).trans (aN w4 o),hown⟩
theorem frozen_later{w w':World}(hb:Below w.heap.size w w'){b o:Nat}{v:Value}(h:w.cell? ⟨b,o,none⟩=some v)(hf:w.frozen? ⟨b,o,none⟩=false):w'.frozen? ⟨b,o,none⟩=false:=
 (hb.frozen (p:=⟨b,o,none⟩) (dC h)).trans hf
theorem ownsRow_base{w:World}{base base':Nat}{e:TypeId}{size:Nat}{v:Value}{n:Nat}{xs:List Value}(h:w.ownsRow base e size v n xs)(hb:base'<=base):w.ownsRow base' e size v n xs:=by
 obtain⟨h1,h2⟩:=h;refine⟨h1,?_⟩;rcases h2 with h2|⟨g,cap,cur,hv,hg,r⟩
 ·exact .inl h2
 ·exact .inr ⟨g,cap,cur,hv,Nat.le_trans hb hg,r⟩
theorem nR{w:World}{base:Nat}{e:TypeId}{v:Value}{l:List Fil}(h:w.ownsRow base e 2 v l.length (cU l))(hz:∀f,f∈l->f.name.size<=140737488355328/\f.text.size<=140737488355328):eP w v l:=by
 rcases h.2 with⟨rfl,h0⟩|⟨g,cap,cur,rfl,hg,hgb,r1,r2,r3,r4⟩
 ·exact tJ
 ·refine⟨_,cap,rfl,r1,r2,fun _=>⟨g,0,rfl,fun i f hf=>⟨[.string f.name,.string f.text],⟨rfl,hz f (List.mem_of_getElem? hf)⟩,rfl,fun j u hu=>?_⟩⟩⟩;have hi:i<l.length:=(List.getElem?_eq_some_iff.1 hf).1;obtain⟨c1,c2⟩:=filCells_at l i f hf;rw[<-r4,List.getElem?_take,if_pos vT] at c1;rw[<-r4,List.getElem?_take,if_pos vT] at c2
  match j,hu with
  |0,hu=>cases hu;simp only[World.cell?,hgb];simpa using c1
  |1,hu=>cases hu;simp only[World.cell?,hgb];simpa using c2
theorem fils_size{w:World}{v:Value}{l:List Fil}(h:eP w v l){f:Fil}(hf:f∈l):f.name.size<=140737488355328/\f.text.size<=140737488355328:=by
 rcases h.cases with⟨rfl,-⟩|⟨b,o,c,-,-,-,-,-,hc⟩
 ·cases hf
 ·obtain⟨i,hi⟩:=List.getElem?_of_mem hf;exact(hc i f hi).2.2
theorem filCells_snoc(l:List Fil)(f:Fil):cU l++[.string f.name,.string f.text]=cU (l++[f]):=by simp[cU]
theorem strs_only{b:Nat}{w w':World}{v:Value}{l:List ByteArray}(h:Strs w v l)(ho:bU b w w')(hb:∀a n c,v=.slice (some a) n c->l≠[]->a.block≠b):Strs w' v l:=by
 obtain⟨a,c,hv,h1,h2,h3⟩:=h;refine⟨a,c,hv,h1,h2,fun hne=>?_⟩;obtain⟨b',o',ha,hc⟩:=h3 hne;refine⟨b',o',ha,fun i x' hx=>?_⟩;obtain⟨cs,e,hl,hj⟩:=hc i x' hx;exact⟨cs,e,hl,fun j u hu=>ho.cell (hb ⟨b',o',none⟩ l.length c (by rw[hv,ha]) hne) (hj j u hu)⟩
theorem ints_off{w:World}{v:Value}{l:List Int}(h:gZ w v l){b:Nat}(hb:w.heap.size<=b):∀a n c,v=.slice (some a) n c->l≠[]->a.block≠b:=by
 intro a n c e hne;rcases h.cases with⟨h0,-⟩|⟨bl,o,c',he,-,-,-,hlt,-⟩
 ·exact absurd h0 hne
 ·rw[e] at he;cases he;simp;omega
theorem saw_text{files:List Fil}{src saw:List ByteArray}{k:Nat}(h:(src.take k).map (aI files)=saw.map some)(ht:∀f,f∈files->f.text.size<=65536):∀x,x∈saw->x.size<=65536:=by
 intro x hx;have:some x∈saw.map some:=List.mem_map_of_mem hx;rw[<-h] at this;obtain⟨y,-,hy⟩:=List.mem_map.1 this;obtain⟨f,hf,rfl⟩:=findFile_mem hy;exact ht f hf
def mI(w:World)(v:Value):Prop:=∀a n c,v=.slice (some a) n c->w.heap.size<=a.block
theorem do_main(s:Stp)(files:List Fil)(clock order:List Int)(vf vl vc vo vn:Value)(u0 u1:Int)(w:World)(h:DoIn s files clock order vf vl vc vo vn u0 u1 w)
  (hr1:aP s=true) (hr2:aR files=true) (hmin:¬min u0 u1<0) (ht:aI files s.out=none) (hfull:¬60<=files.length) (R:Ending->World->Prop)
  (hnone:eT files s.src=none->∀W',Below w.heap.size w W'->R (.returned (mN u0 u1 4)) W')
  (WP:List ByteArray->ByteArray->Int->List ByteArray->Int->Int->Prop)
  (hwrite:∀saw,eT files s.src=some saw->∀bx vs W,WriteIn s saw clock order bx vs vc vo vn vf u0 u1 W->Calls Tryz.prog 52 #[.pointer (some ⟨bx,0,none⟩),.agg #[.int .i64 s.kind,vf,.string s.out,.bool s.sorted]] W fun e w'=>
   ∃vs' text err saw' a b,e=.returned (.tuple #[.string text,.int .i64 err])/\Sbx w' bx vs' vc vo vn a b/\StrsOff bx w' vs' saw'/\bU bx W w'/\WP saw text err saw' a b)
  (hend:∀saw,eT files s.src=some saw->∀text err saw' a b,WP saw text err saw' a b->text.size<=140737488355328/\(err≠0->∀W',Below w.heap.size w W'->R (.returned (mN u0 u1 err)) W')/\
   (err=0->65536<text.size->∀W',Below w.heap.size w W'->R (.returned (mN u0 u1 6)) W')/\
   (err=0->¬65536<text.size->∀W' vfl vsaw,Below w.heap.size w W'->eP W' vfl (cG s files text)->Strs W' vsaw saw'->mI w vfl->(saw'≠[]->mI w vsaw)->R (.returned (.tuple #[vfl,vsaw,.agg #[.int .i64 a,.int .i64 b],.int .i64 0])) W')):
  Calls Tryz.prog 17 (kK s vf vl vc vo vn u0 u1) w R:=by
 have HT:=zh (show iD files s.out=.tuple #[.string ByteArray.empty,.bool false] by unfold iD;rw[ht]);clear ht;have HRT:=zh (rightFiles_text hr2);have HR1:=zh hr1;have HNo:=zh hnone;clear hnone;have HWr:=zh hwrite;clear hwrite;have HEn:=zh hend;clear hend;obtain⟨i0,hi,hz0,hz1,hz2⟩:=info_parts strInfo;have hminb:decide (min u0 u1<0)=false:=decide_eq_false hmin;obtain⟨⟨a1,c1,e1⟩,⟨a2,c2,e2⟩,⟨a3,n3,c3,e3⟩,⟨a4,n4,c4,e4⟩,⟨a5,n5,c5,e5⟩⟩:=nH h
 have HR:Hid (∀W,Below w.heap.size w W->Calls Tryz.prog 24 #[.agg #[.int .i64 s.kind,vf,.string s.out,.bool s.sorted]] W fun e w'=>e=.returned (.bool true)/\Below W.heap.size W w'):=
  zh fun W hb=>hr1▸gE s vf W (h.hsrc.later hb) h.hout
 have HF:Hid (∀W,Below w.heap.size w W->Calls Tryz.prog 51 #[vl] W fun e w'=>e=.returned (.bool true)/\Below W.heap.size W w'):=
  zh fun W hb=>hr2▸gK files vl W (h.hfil.later hb)
 have HFd:Hid (∀W x,Below w.heap.size w W->Calls Tryz.prog 21 #[vl,.string x] W fun e w'=>e=.returned (iD files x)/\Below W.heap.size W w'):=
  zh fun W x hb=>mD files vl x W (h.hfil.later hb)
 have HIn:=zh h;obtain⟨kind,src,out,sorted⟩:=s;have hu0:=h.hu0;have hu1:=h.hu1;clear h;simp only at e1;subst e1 e2 e3 e4 e5;unfold kK;simp only at HR HF ⊢;have hm0:=iG.made w kind (.slice a1 src.length c1) out sorted (.slice a3 n3 c3) (.slice a4 n4 c4) (.slice a5 n5 c5) u0 u1;have HB0:=zh hm0;clear hm0 hr1 hr2;simp only at HT HNo HWr HEn;go_enter Tryz.func17,Tryz.ntmps17;go_wp2_with fail;refine(HR.out _ HB0.out.below).mono ?_;rintro e w1 ⟨rfl,hb1⟩;have HB1:=zh (HB0.out.later hb1);clear HB0 hb1;go_wp2_with fail;refine(HF.out _ HB1.out.below).mono ?_;rintro e w2 ⟨rfl,hb2⟩;have HB2:=zh (HB1.out.later hb2);clear HB1 hb2;obtain⟨s0,s1,s2,s3,y0,y1,y2,x0,x1,r0,r1,f0,f1⟩:=HB2.out.cells;go_wp2_with fail;refine(HFd.out _ _ HB2.out.below).mono ?_;rw[HT.out];rintro e w3 ⟨rfl,hb3⟩;have HB3:=zh (HB2.out.later hb3);clear HB2 hb3 s0 s1 s2 s3 y0 y1 y2 x0 x1 r0 r1 f0 f1;obtain⟨s0,s1,s2,s3,y0,y1,y2,x0,x1,r0,r1,f0,f1⟩:=HB3.out.cells;have hsl:=(dS HR1.out).2.2.1;simp only at hsl;have g0:=iL HB3.out.bs;have g1:=iL HB3.out.bw;have g2:=iL HB3.out.bu;have g3:=iL HB3.out.br;have hfullb:decide (60<=(files.length:Int))=false:=decide_eq_false vT;go_wp2_with fail
 have hW0:DoLoop w (w3.alloc (.cells #[.slice none 0 0,.slice a3 n3 c3,.slice a4 n4 c4,.slice a5 n5 c5,.int .i64 u0,.int .i64 u1] 87)) (w3.alloc (.cells #[.slice none 0 0,.slice a3 n3 c3,.slice a4 n4 c4,.slice a5 n5 c5,.int .i64 u0,.int .i64 u1] 87)) w3.heap.size 0 files kind src (.slice a1 src.length c1) out sorted (.slice a3 n3 c3) (.slice a4 n4 c4) (.slice a5 n5 c5) (.slice none 0 0) u0 u1 []:=
  ⟨HB3.out.later (aA _ _),aN _ _,World.ownsRow_nil _ _ _ _,bU.refl _ _,rfl⟩
 have hbx:w.heap.size+1+1+1<w3.heap.size:=g3;have hW0s:(w3.alloc (.cells #[.slice none 0 0,.slice a3 n3 c3,.slice a4 n4 c4,.slice a5 n5 c5,.int .i64 u0,.int .i64 u1] 87)).heap.size=w3.heap.size+1:=vZ;clear s0 s1 s2 s3 y0 y1 y2 x0 x1 r0 r1 f0 f1 g0 g1 g2 g3 HB3 HR HF HT;generalize w3.alloc (.cells #[.slice none 0 0,.slice a3 n3 c3,.slice a4 n4 c4,.slice a5 n5 c5,.int .i64 u0,.int .i64 u1] 87)=W0 at hW0 hW0s ⊢;generalize w3.heap.size=bx at hW0 hW0s hbx ⊢;have HW0:=zh hW0;clear hW0;have HWs:=zh hW0s;clear hW0s;go_loopw [58] (fun i wr=>∃(k:Nat)(vs:Value)(saw:List ByteArray),k<=src.length/\i=.int .i64 k/\DoLoop w W0 wr bx k files kind src (.slice a1 src.length c1) out sorted (.slice a3 n3 c3) (.slice a4 n4 c4) (.slice a5 n5 c5) vs u0 u1 saw) (fun i _=>src.length-(intOf i).toNat)
 case atStart=>exact⟨0,_,[],Nat.zero_le _,rfl,HW0.out⟩
 case round=>
  clear HW0;obtain⟨k,vs,saw,hk,rfl,hL⟩:=hrel;have HL:=zh hL;obtain⟨hB,hS,hO,hOn,hFo⟩:=hL;have HO:=zh hO;have HFo:=zh hFo;obtain⟨s0,s1,s2,s3,y0,y1,y2,x0,x1,r0,r1,f0,f1⟩:=hB.cells;have c0:=hS.cell 0;have q0:=hS.frozen 0;simp only[List.getElem?_toArray,List.getElem?_cons_zero] at c0;have HBw:=zh hB.below;have hlw:=hB.below.size;have hbl:=hS.lt;have HB:=zh hB;have HS:=zh hS;clear hB hS hO hFo;by_cases hlt:k<src.length
  ·rcases HIn.out.hsrc.cases with⟨h0,-⟩|⟨bl,ol,cl,he,-,-,-,-,hcs⟩
   ·simp only at h0;rw[h0] at hlt;simp at hlt
   ·simp only at he hcs;(injection he with he1 he2 he3);subst he1 he3;obtain⟨x,hx,hxm⟩:=getElem?_of_lt hlt;have hcell:=aC HBw.out (hcs k x hx).1;have HX:=zh hx;clear hcs hx he2
    cases hf:aI files x with
    |none=>
     have HFv:=zh (show iD files x=.tuple #[.string ByteArray.empty,.bool false] by unfold iD;rw[hf]);have HFN:=zh (sawOf_none hxm hf);clear hf hxm;go_wp2_with fail;refine(HFd.out _ _ HBw.out).mono ?_;rw[HFv.out];rintro e w4 ⟨rfl,hb4⟩;clear s0 s1 s2 s3 y0 y1 y2 x0 x1 r0 r1 f0 f1 c0 q0;have HB4:=zh (HB.out.later hb4);obtain⟨s0,s1,s2,s3,y0,y1,y2,x0,x1,r0,r1,f0,f1⟩:=HB4.out.cells;go_wp2_with fail;(go_region);go_wp2_with fail;exact HB4.out.err rfl rfl rfl rfl rfl (HNo.out HFN.out)
    |some t=>
     have HFv:=zh (show iD files x=.tuple #[.string t,.bool true] by unfold iD;rw[hf]);have HFs:=zh (found_snoc HX.out hf HFo.out);clear hf hxm;go_wp2_with fail;refine(HFd.out _ _ HBw.out).mono ?_;rw[HFv.out];rintro e w4 ⟨rfl,hb4⟩;have hbl4:=hb4.size;have HS4:=zh (HS.out.later hb4);have HO4:=zh (HO.out.kept (row:=none) ⟨hb4.os,hb4.tape,hb4.output,hb4.size,fun k hk _=>hb4.block k hk⟩ (Classical.em _));have HB4:=zh (HB.out.later hb4);have HOn4:=zh (hOn.trans (bU.of_below hb4));(have hsawl:saw.length=k:=by have:=congrArg List.length HFo.out;simp at this;omega);have hsl2:saw.length<=60:=vT;clear hsawl s0 s1 s2 s3 y0 y1 y2 x0 x1 r0 r1 f0 f1 c0 q0 hb4 hcell HS HO HB hOn;have kk4:=HS4.out.cell 0;have q4:=HS4.out.frozen 0;simp only[List.getElem?_toArray,List.getElem?_cons_zero] at kk4;have hbl4':bx<w4.heap.size:=HS4.out.lt;go_wp2_with(at_builtin;refine wpList_append_own _ rfl _ _ 22 rfl (bx+1) 9 i0 (.string ByteArray.empty) 1 16 Tryz.underlying22 hi hz0 hz1 hz2 rfl vV _ _ _ rfl (HO4.out.alloc _) ⟨w4.heap.size,0,none⟩ 1 1 [.string t] rfl rfl (cell_one_new _ _ _) wN wK vT wQ ?_);intro v' w5 hown5 hgrow _;(have hz5:w4.heap.size+1<=w5.heap.size:=by have:=hgrow.size;simpa using this);have hrow:∀j,vs.ownBlock=some j->bx+1<=j:=fun j e=>(HO4.out.lt j e).1
     have hblk:∀j,j<w4.heap.size->j<=bx->w5.heap[j]? =w4.heap[j]? :=fun j hj hjb=>by
      rw[hgrow.block j wQ (fun e=>by have:=hrow j e.symm;omega),Below.heap_alloc _ _ _ hj]
     have HS5:=zh (HS4.out.of_block (hblk bx hbl4' (Nat.le_refl _)));have kk5:=HS5.out.cell 0;have q5:=HS5.out.frozen 0;simp only[List.getElem?_toArray,List.getElem?_cons_zero] at kk5;obtain⟨g',cap',rfl⟩:=ownsRow_succ hown5;have HO5:=zh hown5;have hg5:=(hown5.lt g' rfl).1;have HG5:=zh hgrow;have HBk:=zh hblk;clear hown5 hgrow hblk hrow;go_wp2_with fail;go_roundw
     case rel=>
      refine⟨k+1,.slice (some ⟨g',0,none⟩) (saw.length+1) cap',saw++[t],vT,wH,?_⟩;have hbz:=iL HB4.out.br
      have hOn5:bU bx W0 (w5.setCell ⟨bx,0,none⟩ (.slice (some ⟨g',0,none⟩) (saw.length+1) cap')):=by
       refine bU.trans ?_ (bU.setCell w5);have hw:=HWs.out;have h1:=HOn4.out;refine⟨HG5.out.os.trans h1.os,HG5.out.tape.trans h1.tape,HG5.out.output.trans h1.output,A8,fun j hj hne=>?_⟩;rw[HBk.out j A8 vT];exact h1.block j hj hne
      refine⟨⟨?_,?_,?_,?_,?_⟩,HS5.out.saw0 _,?_,hOn5,HFs.out⟩
      ·rw[Below.heap_setCell _ _ _ _ wQ,HBk.out _ vT vT];exact HB4.out.bs
      ·rw[Below.heap_setCell _ _ _ _ wQ,HBk.out _ vT vT];exact HB4.out.bw
      ·rw[Below.heap_setCell _ _ _ _ wQ,HBk.out _ vT vT];exact HB4.out.bu
      ·rw[Below.heap_setCell _ _ _ _ wQ,HBk.out _ vT vT];exact HB4.out.br
      ·have hb:=HB4.out.below;refine(Below.setCell ⟨HG5.out.os.trans hb.os,HG5.out.tape.trans hb.tape,HG5.out.output.trans hb.output,by have:=hb.size;omega,fun j hj=>?_⟩ wQ _);rw[HBk.out j vT vT];exact hb.block j hj
      ·have:=ownsRow_setCell_below HO5.out (a:=⟨bx,0,none⟩) vZ (.slice (some ⟨g',0,none⟩) (saw.length+1) cap');simpa using this
     case measure=>simp[intOf];omega
  ·have hkk:k=src.length:=vT;have HFa:=zh (sawOf_some (src:=src) (saw:=saw) (by have:=HFo.out;rwa [List.take_of_length_le vT] at this));(have hsawl:saw.length=src.length:=by have:=congrArg List.length HFo.out;simp at this;omega);have hbxw:∀{v:Value}{j:Nat},j<w.heap.size->j≠bx:=fun h e=>vT
   have hWI:WriteIn ⟨kind,src,out,sorted⟩ saw clock order bx vs (.slice a3 n3 c3) (.slice a4 n4 c4) (.slice a5 n5 c5) (.slice a1 src.length c1) u0 u1 wr:=by
    have hD:=HIn.out;have hx:=HRT.out;refine⟨hD.hglob.later HBw.out,by have:=hD.hglob.big;omega,HS.out,⟨strs_of_owns HO.out (fun x hx'=>?_),fun a n c e _=>?_⟩,⟨hD.hclk.later HBw.out,ints_off hD.hclk vT⟩,⟨hD.hord.later HBw.out,ints_off hD.hord vT⟩,hD.hsrc.later HBw.out,HR1.out,fun x hx'=>?_,hsawl,⟨vT,hu0.2⟩,⟨vT,hu1.2⟩,hD.hcwf,hD.howf⟩
    ·have:=saw_text HFo.out hx x hx';omega
    ·have:=owns_block HO.out (Nat.le_refl _) a n c e;omega
    ·exact saw_text HFo.out hx x hx'
   have HWc:=zh (HWr.out saw HFa.out bx vs wr hWI);have HEe:=zh (HEn.out saw HFa.out);clear hWI hsawl HWr HEn HNo HFd hkk hbxw;go_wp2_with fail;refine HWc.out.mono ?_;rintro e w4 ⟨vs',text,err,saw',ua,ub,rfl,hS4,hT4,hO4,hP⟩;obtain⟨ht47,he1,he2,he3⟩:=HEe.out text err saw' ua ub hP;have HE1:=zh he1;have HE2:=zh he2;have HE3:=zh he3;have HB4:=zh (HB.out.only hO4 hbx);have HS4:=zh hS4;have HT4:=zh hT4;clear s0 s1 s2 s3 y0 y1 y2 x0 x1 r0 r1 f0 f1 c0 q0 he1 he2 he3 hS4 hT4 hO4 hP HEe HWc HB HS;obtain⟨s0,s1,s2,s3,y0,y1,y2,x0,x1,r0,r1,f0,f1⟩:=HB4.out.cells;by_cases herr:err=0
   ·subst herr;by_cases hbig:65536<text.size
    ·go_wp2_with fail;(go_region);go_wp2_with fail;exact HB4.out.err rfl rfl rfl rfl rfl (HE2.out trivial hbig)
    ·obtain⟨m0,hmi,hm0,hm1,hm2⟩:=info_parts filInfo;have v0:w4.cell? ⟨bx,0,none⟩=some vs':=HS4.out.cell 0;have v4:w4.cell? ⟨bx,4,none⟩=some (.int .i64 ua):=HS4.out.cell 4;have v5:w4.cell? ⟨bx,5,none⟩=some (.int .i64 ub):=HS4.out.cell 5;have hb4w:=HB4.out.below;have HFl:=zh (HIn.out.hfil.later hb4w);have HFA:Hid (eP (w4.alloc (.cells #[.string out,.string text] 40)).drew (.slice a2 files.length c2) files):=zh (HFl.out.later (aA w4 _).drew);have hbx4:bx<w4.heap.size:=HS4.out.lt;have HCl:Hid (∀W,eP W (.slice a2 files.length c2) files->Calls Tryz.prog 53 #[.slice a2 files.length c2] W fun e w'=>∃v',e=.returned v'/\w'.ownsRow W.heap.size 40 2 v' files.length (cU files)/\Below W.heap.size W w'):=zh fun W hW=>clone_any files _ W hW vT;have hfl:files.length<=60:=vT;(obtain⟨va,vnn,vcc,hvs'⟩:∃a n c,vs'=.slice a n c:=by obtain⟨a,c,e,-⟩:=HT4.out.1;exact⟨a,_,c,e⟩);subst hvs';clear HE1 HE2 s0 s1 s3 y0 y1 y2 x0 x1 hb4w;go_wp2_with fail
     go_region_held3 (fun W=>W.cell? ⟨w.heap.size,2,none⟩=some (.string out)/\W.cell? ⟨bx,0,none⟩=some (.slice va vnn vcc)/\W.cell? ⟨bx,4,none⟩=some (.int .i64 ua)/\W.cell? ⟨bx,5,none⟩=some (.int .i64 ub))
      (first|exact⟨l0,l1,l2,l3⟩|exact⟨aC (aA _ _) j0,aC (aA _ _) j1,aC (aA _ _) j2,aC (aA _ _) j3⟩|exact⟨j0,j1,j2,j3⟩|exact⟨s2,v0,v4,v5⟩|(refine⟨cell_set2a ?_,cell_set2b hbx ?_,cell_set2b hbx ?_,cell_set2b hbx ?_⟩<;>assumption)|go_keep)
      (first|(go_at_call 53;refine(HCl.out _ (by exact HFl.out)).mono ?_;rintro e w5 ⟨vcl,rfl,hown5,hb5⟩;have hbd:Below w4.heap.size w4 w5:=(Below.refl _ w4).drew.trans hb5;have j0:=aC hbd s2;have j1:=aC hbd v0;have j2:=aC hbd v4;have j3:=aC hbd v5;have HO5:=zh hown5;have HBd:=zh hbd;clear hown5 hb5 hbd)|(have _g:=HO5;show(if _ then _ else _);go_must (refine step_append_lies (w5.alloc (.cells #[.string out,.string text] 40)) ?y1 (.tmp 100) (.tmp 105) 25 ?y2 w4.heap.size 40 m0 (.agg #[.string ByteArray.empty,.string ByteArray.empty]) 2 32 Tryz.underlying25 hmi hm0 hm1 hm2 ?y8 ?y6 vcl files.length (cU files) ?y3 ?z1 ⟨w5.heap.size,0,none⟩ 1 1 [.string out,.string text] ?y4 ?y5 ?z2 ?z3 ?y7 ?z4 ?z5 ?z6 (w5.heap.size+1) ?z7 ?z8);go_must (case y1=>rfl);go_must (case y2=>rfl);go_must (case y8=>rfl);go_must (case y3=>rfl);go_must (case y4=>rfl);go_must (case y5=>rfl);go_must (case y6=>omega);go_must (case y7=>omega);go_must (case z1=>exact HO5.out.alloc _);go_must (case z2=>exact World.news_of_block (cs:=#[.string out,.string text]) (t:=40) (fr:=(0,0)) (heap_alloc_new w5 _));go_must (case z3=>simp[Value.oneCell']);go_must (case z4=>(unfold maxLen;omega));go_must (case z5=>omega);go_must (case z6=>(have:=HBd.out.size;simp;omega));go_must (case z7=>simp);go_must (intro gg cap w6 hown6 hgrow hat hlt6);go_must (have l0:=mT HBd.out HO5.out hgrow s2);go_must (have l1:=mT HBd.out HO5.out hgrow v0);go_must (have l2:=mT HBd.out HO5.out hgrow v4);go_must (have l3:=mT HBd.out HO5.out hgrow v5);go_must (have l4:=mT HBd.out HO5.out hgrow r0);go_must (have l5:=mT HBd.out HO5.out hgrow r1);go_must (have l6:=frozen_grown HBd.out HO5.out hgrow r0 f0);go_must (have l7:=frozen_grown HBd.out HO5.out hgrow r1 f1);have HO6:=zh hown6;have HB46:=zh (below_grown HBd.out HO5.out hgrow);clear hown6 hgrow hat)|(go_at_call 53;show Calls _ _ _ (World.drew (World.alloc w4 (.cells #[.string out,.string text] 40))) _;go_must (refine(HCl.out _ (HFA.out)).mono ?_);go_must (rintro e w5 ⟨vcl,rfl,hown5,hb5⟩);go_must (obtain⟨hbd,HNB',HO5b'⟩:=cloned_late hown5 hb5);go_must (have j0:=aC hbd s2);go_must (have j1:=aC hbd v0);go_must (have j2:=aC hbd v4);go_must (have j3:=aC hbd v5);have HNB:=zh HNB';have HO5b:=zh HO5b';have HBd:=zh hbd;clear hown5 hb5 hbd HNB' HO5b')|(have _g:=HO5b;show(if _ then _ else _);go_must (refine step_append_lies w5 ?x1 (.tmp 100) (.tmp 105) 25 ?x2 (w4.heap.size+1) 40 m0 (.agg #[.string ByteArray.empty,.string ByteArray.empty]) 2 32 Tryz.underlying25 hmi hm0 hm1 hm2 ?x8 ?x6 vcl files.length (cU files) ?x3 ?x9 ⟨w4.heap.size,0,none⟩ 1 1 [.string out,.string text] ?x4 ?x5 ?t2 ?t3 ?x7 ?t4 ?t5 ?t6 w5.heap.size ?t7 ?t8);go_must (case x1=>rfl);go_must (case x2=>rfl);go_must (case x8=>rfl);go_must (case x3=>rfl);go_must (case x4=>rfl);go_must (case x5=>rfl);go_must (case x6=>omega);go_must (case x7=>omega);go_must (case x9=>exact HO5b.out);go_must (case t2=>exact World.news_of_block (cs:=#[.string out,.string text]) (t:=40) (fr:=(0,0)) HNB.out);go_must (case t3=>simp[Value.oneCell']);go_must (case t4=>(unfold maxLen;omega));go_must (case t5=>omega);go_must (case t6=>(have:=iL HNB.out;omega));go_must (case t7=>rfl);go_must (intro gg cap w6 hown6 hgrow hat hlt6);go_must (have hb46:=below_grown' HBd.out HO5b.out hgrow);go_must (have l0:=aC hb46 s2);go_must (have l1:=aC hb46 v0);go_must (have l2:=aC hb46 v4);go_must (have l3:=aC hb46 v5);go_must (have l4:=aC hb46 r0);go_must (have l5:=aC hb46 r1);go_must (have l6:=frozen_later hb46 r0 f0);go_must (have l7:=frozen_later hb46 r1 f1);have HO6:=zh (ownsRow_base hown6 (Nat.le_succ _));have HB46:=zh hb46;clear hown6 hgrow hat hb46))
     all_goals
      go_wp2_with fail;have hr:=res_cells' (w:=w6) (b:=w.heap.size+1+1+1) (u:=.int .i64 ua) (v:=.int .i64 ub) l4 l5;refine bodyPost_ret (v:=.tuple #[.slice (some ⟨gg,0,none⟩) (files.length+1) cap,.slice va vnn vcc,.agg #[.int .i64 ua,.int .i64 ub],.int .i64 0]) (by simp[results,Tryz.results17,go_sem,hr.1,hr.2]) rfl ?_;have hb46:=HB46.out;have hg6:=(HO6.out.lt gg rfl).1;have hbz:=iL HB4.out.br;have hset:Below w4.heap.size w4 w6:=hb46;have hbw4:=HB4.out.below.size;have hbxw:=hbx;refine HE3.out trivial vT _ _ _ ?_ ?_ ?_ (fun a n c e=>by cases e;exact Nat.le_trans hbw4 hg6) (fun hne a n c e=>by have:=HT4.out.2 a n c e hne;omega)
      ·exact((HB4.out.below.trans (hb46.mono (by have:=HB4.out.below.size;omega))).setCell wQ _).setCell wQ _
      ·have hown:=ownsRow_setCell_below (ownsRow_setCell_below HO6.out (a:=⟨w.heap.size+1+1+1,0,none⟩) wQ (.int .i64 ua)) (a:=⟨w.heap.size+1+1+1,1,none⟩) wQ (.int .i64 ub);rw[filCells_snoc files ⟨out,text⟩] at hown;refine nR (l:=cG ⟨kind,src,out,sorted⟩ files text) (by simpa[cG] using hown) (fun f hf=>?_);simp only[cG,List.mem_append,List.mem_singleton] at hf;rcases hf with hf|rfl
       ·exact fils_size HFl.out hf
       ·exact⟨HIn.out.hout,ht47⟩
      ·have h4:=HT4.out.1.later hset;exact strs_only h4 ((bU.setCell _).trans (bU.setCell _)) (fun a n c e hne=>by have:=HT4.out.2 a n c e hne;omega)
   ·have hb0:(err==0)=false:=beq_eq_false_iff_ne.2 herr;(have hb1:(err != 0)=true:=by rw[bne_iff_ne];exact herr);have HEr:=zh herr;clear herr;go_wp2_with fail;(go_region);go_wp2_with fail;exact HB4.out.err rfl rfl rfl rfl rfl (HE1.out HEr.out)
theorem uI{p:Prop}(h:p:=by
 rintro e w' ⟨rfl,hb⟩
 exact⟨hb,rfl⟩):p:=h
def DoPost(w:World)(s:Stp)(files:List Fil)(u0 u1:Int)(r:DoRes)(e:Ending)(w':World):Prop:=
 Below w.heap.size w w'/\match r with
  | .error c=>e=.returned (mN u0 u1 c)
  | .ok (text,saw,a,b)=>∃vfl vsaw,e=.returned (.tuple #[vfl,vsaw,.agg #[.int .i64 a,.int .i64 b],.int .i64 0])/\eP w' vfl (cG s files text)/\Strs w' vsaw saw
def DoFar(w:World)(s:Stp)(files:List Fil)(u0 u1:Int)(r:DoRes)(e:Ending)(w':World):Prop:=
 Below w.heap.size w w'/\match r with
  | .error c=>e=.returned (mN u0 u1 c)
  | .ok (text,saw,a,b)=>∃vfl vsaw,e=.returned (.tuple #[vfl,vsaw,.agg #[.int .i64 a,.int .i64 b],.int .i64 0])/\eP w' vfl (cG s files text)/\Strs w' vsaw saw/\mI w vfl/\(saw≠[]->mI w vsaw)
theorem sawOf_texts{files:List Fil}(ht:∀f,f∈files->f.text.size<=65536):∀{src saw:List ByteArray},eT files src=some saw->(∀x,x∈saw->x.size<=65536)/\saw.length=src.length
 |[],saw,h=>by cases h;simp
 |y::r,saw,h=>by
  rw[eT] at h;split at h
  ·rename_i t l hf hr;cases h;obtain⟨h1,h2⟩:=sawOf_texts ht hr;refine⟨fun x hx=>?_,by simp[h2]⟩;rcases List.mem_cons.1 hx with rfl|hx
   ·obtain⟨f,hfm,rfl⟩:=findFile_mem hf;exact ht f hfm
   ·exact h1 x hx
  ·cases h
theorem size_toArray(l:List UInt8):(⟨l.toArray⟩:ByteArray).size=l.length:=by show l.toArray.size=_;simp
theorem writeStep_size{s:Stp}{saw:List ByteArray}{clock order:List Int}{u0 u1:Int}(hr:aP s=true)(ht:∀x,x∈saw->x.size<=65536)(hl:saw.length=s.src.length)(hc:∀x,x∈clock->(Lit.int .i64 x).wf=true):
  (aS s saw clock order u0 u1).1.size<=140737488355328:=by
 obtain⟨hn,hout,hlen,hk⟩:=dS hr;have hsz:∀x,x∈s.src->x.size<=20:=fun x hx=>isName_size (hn x hx)
 have hhead:(saw.headD ByteArray.empty).size<=65536:=by
  cases saw with
  |nil=>decide
  |cons x l=>exact ht x vZ
 unfold aS;split
 ·have:=join_length saw 65536 ht;show(⟨(Lib.join _ []).toArray⟩:ByteArray).size<=_;rw[size_toArray];refine Nat.le_trans this ?_;have:saw.length*65536<=60*65536:=Nat.mul_le_mul vT (Nat.le_refl _);omega
 ·split
  ·show(⟨(jD _).toArray⟩:ByteArray).size<=_;rw[size_toArray];exact qB _ hhead
  ·split
   ·show((_++_)++_:ByteArray).size<=_
    have hwx:(Lit.int .i64 (clock.getD u0.toNat 0)).wf=true:=by
     rw[List.getD_eq_getElem?_getD]
     cases hh:clock[u0.toNat]? with
     |none=>rfl
     |some y=>exact hc y (List.mem_of_getElem? hh)
    obtain⟨b0,b1⟩:=i64_bounds hwx;have:=wireInt_size _ b0 b1;rw[ByteArray.size_append,ByteArray.size_append];have h1:(⟨#[10]⟩:ByteArray).size=1:=rfl;omega
   ·split
    ·show(⟨(jD _).toArray⟩:ByteArray).size<=_;rw[size_toArray];have:=lW (fI s.src) 20 (fun x hx=>hsz x (lK hx));rw[fJ] at this;omega
    ·show(⟨(jD _).toArray⟩:ByteArray).size<=_;rw[size_toArray];have h1:=lW (eR order s.src.length u1.toNat (fI s.src)) 20 (fun x hx=>hsz x (lK (pI hx)));have h2:=oI order s.src.length u1.toNat (fI s.src);have h3:(eR order s.src.length u1.toNat (fI s.src)).length*(20+1)<=60*21:=Nat.mul_le_mul vT vT;omega
theorem do_far(C:ByteArray->Int×ByteArray)(s:Stp)(files:List Fil)(clock order:List Int)(vf vl vc vo vn:Value)(u0 u1:Int)(w:World)(h:DoIn s files clock order vf vl vc vo vn u0 u1 w)(h5:s.kind≠5):
  Calls Tryz.prog 17 (kK s vf vl vc vo vn u0 u1) w (DoFar w s files u0 u1 (aX C s files clock order u0 u1)):=by
 by_cases hbad:aP s=false\/aR files=false\/min u0 u1<0
 ·have e:aX C s files clock order u0 u1=.error 1:=by
   unfold aX;rw[if_pos];rcases hbad with h|h|h<;>simp[h]
  rw[e];refine(do_arg s files clock order vf vl vc vo vn u0 u1 w h hbad).mono ?_;exact uI
 ·have hr1:aP s=true:=AX;have hr2:aR files=true:=AE;have hmin:¬min u0 u1<0:=fun hh=>hbad (.inr (.inr hh))
  have e0:aX C s files clock order u0 u1=if(aI files s.out).isSome then .error 5 else if 60<=files.length then .error 6
    else match eT files s.src with|none=>.error 4|some saw=>if 65536<(aS s saw clock order u0 u1).1.size then .error 6 else .ok (aS s saw clock order u0 u1):=by
   unfold aX;rw[if_neg (by simp[hr1,hr2,decide_eq_false hmin])];split
   ·rfl
   ·split
    ·rfl
    ·cases eT files s.src with
     |none=>rfl
     |some saw=>simp only
  rw[e0]
  cases hf:aI files s.out with
  |some t=>
   simp only[Option.isSome_some,if_true];refine(do_twice s files clock order vf vl vc vo vn u0 u1 w h hr1 hr2 hmin t hf).mono ?_;exact uI
  |none=>
   simp only[Option.isSome_none,Bool.false_eq_true,if_false];by_cases hfull:60<=files.length
   ·rw[if_pos hfull];refine(do_full s files clock order vf vl vc vo vn u0 u1 w h hr1 hr2 hmin hf hfull).mono ?_;exact uI
   ·rw[if_neg hfull]
    refine do_main s files clock order vf vl vc vo vn u0 u1 w h hr1 hr2 hmin hf hfull _ (fun hs W' hW=>?_)
     (fun saw text err saw' a b=>err=0/\(text,saw',a,b)=aS s saw clock order u0 u1) (fun saw hs bx vs W hWI=>?_) (fun saw hs text err saw' a b hP=>?_)
    ·rw[hs];exact⟨hW,rfl⟩
    ·refine(write_any s saw clock order bx vs vc vo vn vf u0 u1 W hWI h5).mono ?_;rintro e w' ⟨vs',rfl,h1,h2,h3⟩;exact⟨vs',_,0,_,_,_,rfl,h1,h2,h3,rfl,rfl⟩
    ·obtain⟨rfl,hw⟩:=hP;obtain⟨ht,hl⟩:=sawOf_texts (rightFiles_text hr2) hs;have hsz:=writeStep_size (order:=order) (u0:=u0) (u1:=u1) hr1 ht hl h.hcwf;rw[hs];simp only;rw[<-hw] at hsz ⊢;refine⟨hsz,fun h=>absurd rfl h,fun _ hbig W' hW=>?_,fun _ hbig W' vfl vsaw hW h1 h2 h3 h4=>?_⟩
     ·rw[if_pos hbig];exact⟨hW,rfl⟩
     ·rw[if_neg hbig];exact⟨hW,vfl,vsaw,rfl,h1,h2,h3,h4⟩
end Go.Proofs.YtacgopankhpnbaaGreatDoor
