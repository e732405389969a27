/- Texts of this seat, joined. -/
import Derived.Test.YtacgopankhpnbaaGreatDoorTQC
import Derived.Test.YtacgopankhpnbaaGreatDoorTQI
set_option maxHeartbeats 2000000
set_option maxRecDepth 100000
set_option linter.unusedVariables false
set_option linter.unusedSimpArgs false
namespace Go.Proofs.YtacgopankhpnbaaGreatDoor
open Go.RowKit
theorem aCh{p:Prop}(h:p:=by rw[Lib.cell_of_heap ER];rfl):p:=h
theorem aCi{p:Prop}(h:p:=by rw[Lib.cell_of_heap sD];rfl):p:=h
theorem aCL{p:Prop}(h:p:=by kernel_rfl):p:=h
theorem ZZ{p:Prop}(h:p:=by
 rcases Nat.lt_or_ge b w1.heap.size with h'|h'
 ·exact h'
 simp[Array.getElem?_eq_none h'] at ER):p:=h
theorem aAo{p:Prop}(h:p:=by
 exact Lib.BuilderAt.put (T:=147) (e:=5) hB sD (bs':=bs++Lib.strCells s) (by simpa[Lib.strCells_length] using wG) (by decide)):p:=h
theorem aAL{p:Prop}(h:p:=by
 exact(sF.grown sA (by have:=sF.size;omega) (fun k hk=>(sB.lt k hk).1)).setCell (p:=⟨b,1,none⟩) hB _):p:=h
theorem bldSize:(Tryz.prog.info? 147).map (·.size)=some 2:=aCL
theorem bldLies:liesAt Tryz.prog Tryz.prog.depth 147 (2 / Tryz.prog.cellsOf 147) 0 147 1=true:=aCL
theorem byteInfo:(Tryz.prog.info? 5).map (fun i=>(i.zero,i.size,i.bytes))=some (some (.int .u8 0),1,1):=aCL
theorem copyCheck_used(b:Nat)(w:World)(h0:w.cell? ⟨b,0,none⟩=some (.pointer (some ⟨b,0,none⟩))):
  Calls Tryz.prog 120 #[.pointer (some ⟨b,0,none⟩)] w fun e w'=>e=.returned (.tuple #[])/\w'=w:=by
 obtain⟨j,hj,_⟩:=Option.map_eq_some_iff.1 bldSize;go_enter Tryz.func120,Tryz.ntmps120
 go_wp2
 rw[Lib.run_neq_ptr_same w _ Tryz.underlying144 hj]
 go_wp2
 go_end0;exact⟨rfl,rfl⟩
theorem copyCheck_fresh(b:Nat)(w:World)(h0:w.cell? ⟨b,0,none⟩=some (.pointer none))(JA:w.shape? b=some (147,2))(RC:w.frozen? ⟨b,0,none⟩=false):
  Calls Tryz.prog 120 #[.pointer (some ⟨b,0,none⟩)] w fun e w'=>e=.returned (.tuple #[])/\w'=w.setCell ⟨b,0,none⟩ (.pointer (some ⟨b,0,none⟩)):=by
 obtain⟨j,hj,hjs⟩:=Option.map_eq_some_iff.1 bldSize;go_enter Tryz.func120,Tryz.ntmps120
 go_wp2
 rw[Lib.run_to_unsafe w ⟨b,0,none⟩ Tryz.underlying144 Tryz.underlying233 hj (by rw[hjs];decide) JA (Nat.zero_lt_succ 1)];simp only[Result.andThen];rw[Oper.upon_value]
 go_wp2
 rw[run_callFunc_extern Tryz.func161 aCL aCL aCL (e:=Extern.AbiNoEscape.same) aCL];rw[Lib.run_noEscape];simp only[Result.andThen];rw[Oper.upon_value]
 go_wp2
 rw[Lib.run_from_unsafe w ⟨b,0,none⟩ Tryz.underlying233 Tryz.underlying144 hj JA bldLies];simp only[Result.andThen];rw[Oper.upon_value]
 go_wp2
 go_end0;exact⟨rfl,rfl⟩
theorem copyCheck_any(B b:Nat)(bs:List Value)(w:World)(h:Lib.IsBuilder 147 5 B b bs w):
  Calls Tryz.prog 120 #[.pointer (some ⟨b,0,none⟩)] w fun e w'=>e=.returned (.tuple #[])/\(Lib.BuilderAt 147 5 B b (.pointer (some ⟨b,0,none⟩)) bs w'/\Below B w w'):=by
 rcases h with h|h
 ·refine(copyCheck_fresh b w h.cell0 h.shape h.frozen0).mono ?_;rintro e w' ⟨rfl,rfl⟩;exact⟨rfl,h.used _,(Below.refl B w).setCell (p:=⟨b,0,none⟩) h.1 _⟩
 refine(copyCheck_used b w h.cell0).mono ?_;rintro e w' ⟨rfl,rfl⟩;exact⟨rfl,h,Below.refl B _⟩
theorem writeByte_any(B b:Nat)(bs:List Value)(c:Int)(w:World)(h:Lib.IsBuilder 147 5 B b bs w)(hlen:bs.length+1<=140737488355328)(PM:B<=w.heap.size):
  Calls Tryz.prog 102 #[.pointer (some ⟨b,0,none⟩),.int .u8 c] w fun e w'=>e=.returned .nilIface/\(Lib.BuilderAt 147 5 B b (.pointer (some ⟨b,0,none⟩)) (bs++[.int .u8 c]) w'/\Below B w w'):=by
 obtain⟨i0,hi,tM,sY,sX⟩:=info_parts byteInfo;go_enter Tryz.func102,Tryz.ntmps102;go_wp2_with(go_at_call 120;refine(copyCheck_any B b bs _ h).mono ?_);rintro e w1 ⟨rfl,h1,sF⟩;obtain⟨hB,v,ER,sB,sC⟩:=h1;have c0:w1.cell? ⟨b,0,none⟩=some (.pointer (some ⟨b,0,none⟩)):=aCh;have c1:w1.cell? ⟨b,1,none⟩=some v:=aCh;go_wp2_with(at_builtin;refine wpList_append_own _ rfl _ _ 145 rfl B 5 i0 (.int .u8 0) 1 1 Tryz.underlying145 hi tM sY sX rfl (by decide) _ _ _ rfl (sB.alloc _) ⟨w1.heap.size,0,none⟩ 1 1 [.int .u8 c] rfl rfl ?c1 ?c2 ?c3 ?c4 ?c5 ?_)
 case c1=>
  intro j u hj
  match j,hj with
  |0,hj=>simp at hj;subst hj;simp[Addr.add]
 case c2=>intro u hu;simp at hu;subst hu;rfl
 case c3=>unfold maxLen;omega
 case c4=>omega
 case c5=>have:=sF.size;simp;omega
 intro v' w2 wG sA _
 have sE:b<w1.heap.size:=by
  exact ZZ
 have sD:w2.heap[b]? =some (.cells #[.pointer (some ⟨b,0,none⟩),v] 147 (0,0)):=by
  rw[sA.block b (by simp;omega) (fun e=>sC e.symm),Lib.alloc_old w1 _ b sE];exact ER
 have d0:w2.cell? ⟨b,0,none⟩=some (.pointer (some ⟨b,0,none⟩)):=aCi;have d1:w2.cell? ⟨b,1,none⟩=some v:=aCi;have f1:w2.frozen? ⟨b,1,none⟩=false:=Lib.frozen_of_heap sD 1
 obtain⟨g,cap,rfl⟩:∃g cap,v'=.slice (some ⟨g,0,none⟩) (bs.length+1) cap:=by
  rcases wG.2 with⟨_,h0⟩|⟨g,cap,cur,hv,_⟩
  ·omega
  exact⟨g,cap,hv⟩
 go_wp2
 go_ret;refine⟨rfl,?_,?_⟩
 ·exact Lib.BuilderAt.put (T:=147) (e:=5) hB sD (bs':=bs++[.int .u8 c]) (by simpa using wG) (by decide)
 exact((sF.alloc (by have:=sF.size;omega) _).grown sA (by have:=sF.size;simp;omega) (fun k hk=>(sB.lt k hk).1)).setCell (p:=⟨b,1,none⟩) hB _
theorem writeString_any(B b:Nat)(bs:List Value)(s:bA)(w:World)(h:Lib.IsBuilder 147 5 B b bs w)(hlen:bs.length+s.size<=140737488355328)(PM:B<=w.heap.size):
  Calls Tryz.prog 100 #[.pointer (some ⟨b,0,none⟩),.string s] w fun e w'=>e=.returned (.tuple #[.int .i64 s.size,.nilIface])/\(Lib.BuilderAt 147 5 B b (.pointer (some ⟨b,0,none⟩)) (bs++Lib.strCells s) w'/\Below B w w'):=by
 obtain⟨i0,hi,tM,sY,sX⟩:=info_parts byteInfo;go_enter Tryz.func100,Tryz.ntmps100;go_wp2_with(go_at_call 120;refine(copyCheck_any B b bs _ h).mono ?_);rintro e w1 ⟨rfl,h1,sF⟩;obtain⟨hB,v,ER,sB,sC⟩:=h1;have c0:w1.cell? ⟨b,0,none⟩=some (.pointer (some ⟨b,0,none⟩)):=aCh;have c1:w1.cell? ⟨b,1,none⟩=some v:=aCh;go_wp2_with(at_builtin;refine Lib.wpList_append_own_string _ rfl _ _ 145 9 rfl B 5 i0 Tryz.underlying145 Tryz.underlying9 hi tM sY sX _ _ _ rfl sB s rfl ?c3 ?c4 ?c5 ?_);case c3=>unfold maxLen;omega
 case c4=>omega
 case c5=>have:=sF.size;omega
 intro v' w2 wG sA _
 have sE:b<w1.heap.size:=by
  exact ZZ
 have sD:w2.heap[b]? =some (.cells #[.pointer (some ⟨b,0,none⟩),v] 147 (0,0)):=by
  rw[sA.block b sE (fun e=>sC e.symm)];exact ER
 have d0:w2.cell? ⟨b,0,none⟩=some (.pointer (some ⟨b,0,none⟩)):=aCi;have d1:w2.cell? ⟨b,1,none⟩=some v:=aCi;have f1:w2.frozen? ⟨b,1,none⟩=false:=Lib.frozen_of_heap sD 1
 obtain⟨ao,n',cap,rfl⟩:∃ao n' cap,v'=.slice ao n' cap:=by
  rcases wG.2 with⟨hv,_⟩|⟨g,cap,cur,hv,_⟩
  ·exact⟨_,_,_,hv⟩
  exact⟨_,_,_,hv⟩
 go_wp2
 go_ret2;refine⟨rfl,?_,?_⟩
 ·exact aAo
 exact aAL
theorem filInfo:(Tryz.prog.info? 40).map (fun i=>(i.zero,i.size,i.bytes))=some (some (.agg #[.string ByteArray.empty,.string ByteArray.empty]),2,32):=aAN
def cG(l:List Fil):List Value:=l.flatMap fun f=>[.string f.name,.string f.text]
theorem filCells_length(l:List Fil):(cG l).length=l.length*2:=by
 induction l with
 |nil=>rfl
 |cons f l ih=>rw[show cG (f::l)=[.string f.name,.string f.text]++cG l from rfl,List.length_append,ih];simp;omega
theorem filCells_get(l:List Fil):∀(j:Nat)(u:Value),(cG l)[j]? =some u->∃i f,l[i]? =some f/\(j=i*2/\u=.string f.name\/j=i*2+1/\u=.string f.text):=by
 induction l with
 |nil=>intro j u h;simp[cG] at h
 |cons f l ih=>
  intro j u h;rw[show cG (f::l)=[.string f.name,.string f.text]++cG l from rfl] at h
  match j,h with
  |0,h=>simp at h;exact⟨0,f,rfl,.inl ⟨rfl,h.symm⟩⟩
  |1,h=>simp at h;exact⟨0,f,rfl,.inr ⟨rfl,h.symm⟩⟩
  |j+2,h=>
   obtain⟨i,g,hg,hh⟩:=ih j u aBn;exact⟨i+1,g,by simpa using hg,by rcases hh with⟨h1,h2⟩|⟨h1,h2⟩;exact .inl ⟨aAM,h2⟩;exact .inr ⟨aAM,h2⟩⟩
theorem filCells_at(l:List Fil)(i:Nat)(f:Fil)(h:l[i]? =some f):(cG l)[i*2]? =some (.string f.name)/\(cG l)[i*2+1]? =some (.string f.text):=by
 induction l generalizing i with
 |nil=>simp at h
 |cons g l ih=>
  rw[show cG (g::l)=.string g.name:: .string g.text::cG l from rfl]
  match i,h with
  |0,h=>simp at h;subst h;exact⟨rfl,rfl⟩
  |i+1,h=>
   have:=ih i aBn;rw[show(i+1)*2=i*2+1+1 by omega];simpa using this
theorem filCells_one(l:List Fil):∀u∈cG l,u.oneCell'=true:=by
 intro u hu;simp only[cG,List.mem_flatMap] at hu;obtain⟨f,-,hu⟩:=hu;simp at hu;rcases hu with rfl|rfl<;>rfl
theorem clone_some(ad:Addr)(c:Nat)(l:List Fil)(w:World)(hc:∀j u,(cG l)[j]? =some u->w.cell? (ad.add j)=some u)(hl:l.length<=1000000):
  Calls Tryz.prog 53 #[.slice (some ad) l.length c] w fun e w'=>∃v',e=.returned v'/\w'.ownsRow w.heap.size 40 2 v' l.length (cG l)/\Below w.heap.size w w':=by
 obtain⟨i0,hi,tM,sY,sX⟩:=info_parts filInfo;have HC:=zh hc;clear hc;have SO:∀(w:World)(a:Option Addr)(n c n' c':Nat),(binOp .eql 25 (.slice a n c) (.slice none n' c')).run Tryz.prog w=.ok (.bool a.isNone) w:=fun w a n c n' c'=>Lib.run_eql_slice_nil w _ _ a n c n' c' Tryz.underlying25;go_enter Tryz.func53,Tryz.ntmps53;go_wp2_with(at_builtin;refine wpList_append_own _ rfl _ _ 25 rfl w.heap.size 40 i0 (.agg #[.string ByteArray.empty,.string ByteArray.empty]) 2 32 Tryz.underlying25 hi tM sY sX rfl aAO _ _ _ rfl (World.ownsRow_made w #[] 0 (Nat.le_refl _) (Nat.zero_le _) aAQ) ad l.length c (cG l) rfl (filCells_length l) (fun j u hj=>Lib.cell?_alloc_some _ (HC.out j u hj)) (filCells_one l) aAY aAM aAQ ?_);intro v' w1 sB sA KJ;have HO:=zh sB;clear sB KJ;have L1:=zh sA;clear sA;go_wp2_with fail;go_ret;refine⟨v',rfl,by simpa using HO.out,?_⟩;exact((Below.refl _ w).alloc (Nat.le_refl _) _).grown L1.out aAQ (by intro k hk;simp[Value.ownBlock] at hk;omega)
theorem clone_nil(c:Nat)(w:World):
  Calls Tryz.prog 53 #[.slice none 0 c] w fun e w'=>∃v',e=.returned v'/\w'.ownsRow w.heap.size 40 2 v' 0 []/\Below w.heap.size w w':=by
 have SO:∀(w:World)(a:Option Addr)(n c n' c':Nat),(binOp .eql 25 (.slice a n c) (.slice none n' c')).run Tryz.prog w=.ok (.bool a.isNone) w:=fun w a n c n' c'=>Lib.run_eql_slice_nil w _ _ a n c n' c' Tryz.underlying25;go_enter Tryz.func53,Tryz.ntmps53;go_wp2_with fail;go_ret;exact⟨_,rfl,World.ownsRow_nil _ _ _ _,Below.refl _ _⟩
theorem clone_any(l:List Fil)(v:Value)(w:World)(hv:jZ w v l)(hl:l.length<=1000000):
  Calls Tryz.prog 53 #[v] w fun e w'=>∃v',e=.returned v'/\w'.ownsRow w.heap.size 40 2 v' l.length (cG l)/\Below w.heap.size w w':=by
 rcases hv.cases with⟨rfl,a,c,rfl⟩|⟨b,o,c,rfl,h0,h1,h2,hb,hc⟩
 ·cases a with
  |none=>exact clone_nil c w
  |some a=>exact clone_some a c [] w (fun j u h=>by simp[cG] at h) hl
 refine clone_some _ c l w (fun j u h=>?_) hl;obtain⟨i,f,hf,hh⟩:=filCells_get l j u h;obtain⟨c1,c2,-⟩:=hc i f hf;rw[Addr.add_lit];rcases hh with⟨rfl,rfl⟩|⟨rfl,rfl⟩
 ·exact c1
 rw[<-Nat.add_assoc];exact c2
end Go.Proofs.YtacgopankhpnbaaGreatDoor
