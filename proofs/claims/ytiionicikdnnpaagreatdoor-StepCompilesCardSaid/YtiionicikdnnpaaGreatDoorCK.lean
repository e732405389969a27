/- Texts of this seat, joined. -/
import Derived.Test.YtiionicikdnnpaaGreatDoorShelf
import Derived.Test.YtiionicikdnnpaaGreatDoorCH
set_option maxHeartbeats 2000000
set_option maxRecDepth 100000
set_option linter.unusedVariables false
set_option linter.unusedSimpArgs false
namespace Go.Proofs.YtiionicikdnnpaaGreatDoor
open Go.RowKit
theorem aAG{p:Prop}(h:p:=by rw[Lib.cell_of_heap yV];rfl):p:=h
theorem aAH{p:Prop}(h:p:=by rw[Lib.cell_of_heap rQ];rfl):p:=h
theorem aA5{p:Prop}(h:p:=by kernel_rfl):p:=h
theorem XE{p:Prop}(h:p:=by
 rcases Nat.lt_or_ge b w1.heap.size with h'|h'
 ·exact h'
 simp[Array.getElem?_eq_none h'] at yV):p:=h
theorem XZ{p:Prop}(h:p:=by
 exact Lib.BuilderAt.put (T:=100) (e:=5) hB rQ (bs':=bs++Lib.strCells s) (by simpa[Lib.strCells_length] using tT) (by decide)):p:=h
theorem YL{p:Prop}(h:p:=by
 exact(rR.grown rN (by have:=rR.size;omega) (fun k hk=>(rP.lt k hk).1)).setCell (p:=⟨b,1,none⟩) hB _):p:=h
theorem bldSize:(Tryz.prog.info? 100).map (·.size)=some 2:=aA5
theorem bldLies:liesAt Tryz.prog Tryz.prog.depth 100 (2 / Tryz.prog.cellsOf 100) 0 100 1=true:=aA5
theorem byteInfo:(Tryz.prog.info? 5).map (fun i=>(i.zero,i.size,i.bytes))=some (some (.int .u8 0),1,1):=aA5
theorem copyCheck_used(b:Nat)(w:World)(h0:w.cell? ⟨b,0,none⟩=some (.pointer (some ⟨b,0,none⟩))):
  Calls Tryz.prog 195 #[.pointer (some ⟨b,0,none⟩)] w fun e w'=>e=.returned (.tuple #[])/\w'=w:=by
 obtain⟨j,hj,_⟩:=Option.map_eq_some_iff.1 bldSize;go_enter Tryz.func195,Tryz.ntmps195
 go_wp2
 rw[Lib.run_neq_ptr_same w _ Tryz.underlying97 hj]
 go_wp2
 go_end0;exact⟨rfl,rfl⟩
theorem copyCheck_fresh(b:Nat)(w:World)(h0:w.cell? ⟨b,0,none⟩=some (.pointer none))(hsh:w.shape? b=some (100,2))(hfz:w.frozen? ⟨b,0,none⟩=false):
  Calls Tryz.prog 195 #[.pointer (some ⟨b,0,none⟩)] w fun e w'=>e=.returned (.tuple #[])/\w'=w.setCell ⟨b,0,none⟩ (.pointer (some ⟨b,0,none⟩)):=by
 obtain⟨j,hj,hjs⟩:=Option.map_eq_some_iff.1 bldSize;go_enter Tryz.func195,Tryz.ntmps195
 go_wp2
 rw[Lib.run_to_unsafe w ⟨b,0,none⟩ Tryz.underlying97 Tryz.underlying237 hj (by rw[hjs];decide) hsh (Nat.zero_lt_succ 1)];simp only[Result.andThen];rw[Oper.upon_value]
 go_wp2
 rw[run_callFunc_extern Tryz.func228 aA5 aA5 aA5 (e:=Extern.AbiNoEscape.same) aA5];rw[Lib.run_noEscape];simp only[Result.andThen];rw[Oper.upon_value]
 go_wp2
 rw[Lib.run_from_unsafe w ⟨b,0,none⟩ Tryz.underlying237 Tryz.underlying97 hj hsh bldLies];simp only[Result.andThen];rw[Oper.upon_value]
 go_wp2
 go_end0;exact⟨rfl,rfl⟩
theorem copyCheck_any(B b:Nat)(bs:List Value)(w:World)(h:Lib.IsBuilder 100 5 B b bs w):
  Calls Tryz.prog 195 #[.pointer (some ⟨b,0,none⟩)] w fun e w'=>e=.returned (.tuple #[])/\(Lib.BuilderAt 100 5 B b (.pointer (some ⟨b,0,none⟩)) bs w'/\Below B w w'):=by
 rcases h with h|h
 ·refine(copyCheck_fresh b w h.cell0 h.shape h.frozen0).mono ?_;rintro e w' ⟨rfl,rfl⟩;exact⟨rfl,h.used _,(Below.refl B w).setCell (p:=⟨b,0,none⟩) h.1 _⟩
 refine(copyCheck_used b w h.cell0).mono ?_;rintro e w' ⟨rfl,rfl⟩;exact⟨rfl,h,Below.refl B _⟩
theorem writeByte_any(B b:Nat)(bs:List Value)(c:Int)(w:World)(h:Lib.IsBuilder 100 5 B b bs w)(hlen:bs.length+1<=140737488355328)(NO:B<=w.heap.size):
  Calls Tryz.prog 149 #[.pointer (some ⟨b,0,none⟩),.int .u8 c] w fun e w'=>e=.returned .nilIface/\(Lib.BuilderAt 100 5 B b (.pointer (some ⟨b,0,none⟩)) (bs++[.int .u8 c]) w'/\Below B w w'):=by
 obtain⟨i0,hi,vA,tF,sY⟩:=info_parts byteInfo;go_enter Tryz.func149,Tryz.ntmps149;go_wp2_with(go_at_call 195;refine(copyCheck_any B b bs _ h).mono ?_);rintro e w1 ⟨rfl,h1,rR⟩;obtain⟨hB,v,yV,rP,rO⟩:=h1;have c0:w1.cell? ⟨b,0,none⟩=some (.pointer (some ⟨b,0,none⟩)):=aAG;have c1:w1.cell? ⟨b,1,none⟩=some v:=aAG;go_wp2_with(at_builtin;refine wpList_append_own _ rfl _ _ 98 rfl B 5 i0 (.int .u8 0) 1 1 Tryz.underlying98 hi vA tF sY rfl (by decide) _ _ _ rfl (rP.alloc _) ⟨w1.heap.size,0,none⟩ 1 1 [.int .u8 c] rfl rfl ?c1 ?c2 ?c3 ?c4 ?c5 ?_)
 case c1=>
  intro j u hj
  match j,hj with
  |0,hj=>simp at hj;subst hj;simp[Addr.add]
 case c2=>intro u hu;simp at hu;subst hu;rfl
 case c3=>unfold maxLen;omega
 case c4=>omega
 case c5=>have:=rR.size;simp;omega
 intro v' w2 tT rN _
 have rU:b<w1.heap.size:=by
  exact XE
 have rQ:w2.heap[b]? =some (.cells #[.pointer (some ⟨b,0,none⟩),v] 100 (0,0)):=by
  rw[rN.block b (by simp;omega) (fun e=>rO e.symm),Lib.alloc_old w1 _ b rU];exact yV
 have d0:w2.cell? ⟨b,0,none⟩=some (.pointer (some ⟨b,0,none⟩)):=aAH;have d1:w2.cell? ⟨b,1,none⟩=some v:=aAH;have f1:w2.frozen? ⟨b,1,none⟩=false:=Lib.frozen_of_heap rQ 1
 obtain⟨g,cap,rfl⟩:∃g cap,v'=.slice (some ⟨g,0,none⟩) (bs.length+1) cap:=by
  rcases tT.2 with⟨_,h0⟩|⟨g,cap,cur,hv,_⟩
  ·omega
  exact⟨g,cap,hv⟩
 go_wp2
 go_ret;refine⟨rfl,?_,?_⟩
 ·exact Lib.BuilderAt.put (T:=100) (e:=5) hB rQ (bs':=bs++[.int .u8 c]) (by simpa using tT) (by decide)
 exact((rR.alloc (by have:=rR.size;omega) _).grown rN (by have:=rR.size;simp;omega) (fun k hk=>(rP.lt k hk).1)).setCell (p:=⟨b,1,none⟩) hB _
theorem writeString_any(B b:Nat)(bs:List Value)(s:bA)(w:World)(h:Lib.IsBuilder 100 5 B b bs w)(hlen:bs.length+s.size<=140737488355328)(NO:B<=w.heap.size):
  Calls Tryz.prog 150 #[.pointer (some ⟨b,0,none⟩),.string s] w fun e w'=>e=.returned (.tuple #[.int .i64 s.size,.nilIface])/\(Lib.BuilderAt 100 5 B b (.pointer (some ⟨b,0,none⟩)) (bs++Lib.strCells s) w'/\Below B w w'):=by
 obtain⟨i0,hi,vA,tF,sY⟩:=info_parts byteInfo;go_enter Tryz.func150,Tryz.ntmps150;go_wp2_with(go_at_call 195;refine(copyCheck_any B b bs _ h).mono ?_);rintro e w1 ⟨rfl,h1,rR⟩;obtain⟨hB,v,yV,rP,rO⟩:=h1;have c0:w1.cell? ⟨b,0,none⟩=some (.pointer (some ⟨b,0,none⟩)):=aAG;have c1:w1.cell? ⟨b,1,none⟩=some v:=aAG;go_wp2_with(at_builtin;refine Lib.wpList_append_own_string _ rfl _ _ 98 9 rfl B 5 i0 Tryz.underlying98 Tryz.underlying9 hi vA tF sY _ _ _ rfl rP s rfl ?c3 ?c4 ?c5 ?_);case c3=>unfold maxLen;omega
 case c4=>omega
 case c5=>have:=rR.size;omega
 intro v' w2 tT rN _
 have rU:b<w1.heap.size:=by
  exact XE
 have rQ:w2.heap[b]? =some (.cells #[.pointer (some ⟨b,0,none⟩),v] 100 (0,0)):=by
  rw[rN.block b rU (fun e=>rO e.symm)];exact yV
 have d0:w2.cell? ⟨b,0,none⟩=some (.pointer (some ⟨b,0,none⟩)):=aAH;have d1:w2.cell? ⟨b,1,none⟩=some v:=aAH;have f1:w2.frozen? ⟨b,1,none⟩=false:=Lib.frozen_of_heap rQ 1
 obtain⟨ao,n',cap,rfl⟩:∃ao n' cap,v'=.slice ao n' cap:=by
  rcases tT.2 with⟨hv,_⟩|⟨g,cap,cur,hv,_⟩
  ·exact⟨_,_,_,hv⟩
  exact⟨_,_,_,hv⟩
 go_wp2
 go_ret2;refine⟨rfl,?_,?_⟩
 ·exact XZ
 exact YL
theorem filInfo:(Tryz.prog.info? 69).map (fun i=>(i.zero,i.size,i.bytes))=some (some (.agg #[.string ByteArray.empty,.string ByteArray.empty]),2,32):=YN
def dX(l:List Fil):List Value:=l.flatMap fun f=>[.string f.name,.string f.text]
theorem filCells_length(l:List Fil):(dX l).length=l.length*2:=by
 induction l with
 |nil=>rfl
 |cons f l ih=>rw[show dX (f::l)=[.string f.name,.string f.text]++dX l from rfl,List.length_append,ih];simp;omega
theorem filCells_get(l:List Fil):∀(j:Nat)(u:Value),(dX l)[j]? =some u->∃i f,l[i]? =some f/\(j=i*2/\u=.string f.name\/j=i*2+1/\u=.string f.text):=by
 induction l with
 |nil=>intro j u h;simp[dX] at h
 |cons f l ih=>
  intro j u h;rw[show dX (f::l)=[.string f.name,.string f.text]++dX l from rfl] at h
  match j,h with
  |0,h=>simp at h;exact⟨0,f,rfl,.inl ⟨rfl,h.symm⟩⟩
  |1,h=>simp at h;exact⟨0,f,rfl,.inr ⟨rfl,h.symm⟩⟩
  |j+2,h=>
   obtain⟨i,g,hg,hh⟩:=ih j u ZS;exact⟨i+1,g,by simpa using hg,by rcases hh with⟨h1,h2⟩|⟨h1,h2⟩;exact .inl ⟨YM,h2⟩;exact .inr ⟨YM,h2⟩⟩
theorem filCells_at(l:List Fil)(i:Nat)(f:Fil)(h:l[i]? =some f):(dX l)[i*2]? =some (.string f.name)/\(dX l)[i*2+1]? =some (.string f.text):=by
 induction l generalizing i with
 |nil=>simp at h
 |cons g l ih=>
  rw[show dX (g::l)=.string g.name:: .string g.text::dX l from rfl]
  match i,h with
  |0,h=>simp at h;subst h;exact⟨rfl,rfl⟩
  |i+1,h=>
   have:=ih i ZS;rw[show(i+1)*2=i*2+1+1 by omega];simpa using this
theorem filCells_one(l:List Fil):∀u∈dX l,u.oneCell'=true:=by
 intro u hu;simp only[dX,List.mem_flatMap] at hu;obtain⟨f,-,hu⟩:=hu;simp at hu;rcases hu with rfl|rfl<;>rfl
theorem clone_some(ad:Addr)(c:Nat)(l:List Fil)(w:World)(hc:∀j u,(dX l)[j]? =some u->w.cell? (ad.add j)=some u)(hl:l.length<=1000000):
  Calls Tryz.prog 108 #[.slice (some ad) l.length c] w fun e w'=>∃v',e=.returned v'/\w'.ownsRow w.heap.size 69 2 v' l.length (dX l)/\Below w.heap.size w w':=by
 obtain⟨i0,hi,vA,tF,sY⟩:=info_parts filInfo;have HC:=zh hc;clear hc;have QI:∀(w:World)(a:Option Addr)(n c n' c':Nat),(binOp .eql 64 (.slice a n c) (.slice none n' c')).run Tryz.prog w=.ok (.bool a.isNone) w:=fun w a n c n' c'=>Lib.run_eql_slice_nil w _ _ a n c n' c' Tryz.underlying64;go_enter Tryz.func108,Tryz.ntmps108;go_wp2_with(at_builtin;refine wpList_append_own _ rfl _ _ 64 rfl w.heap.size 69 i0 (.agg #[.string ByteArray.empty,.string ByteArray.empty]) 2 32 Tryz.underlying64 hi vA tF sY rfl YO _ _ _ rfl (World.ownsRow_made w #[] 0 (Nat.le_refl _) (Nat.zero_le _) YR) ad l.length c (dX l) rfl (filCells_length l) (fun j u hj=>Lib.cell?_alloc_some _ (HC.out j u hj)) (filCells_one l) Y7 YM YR ?_);intro v' w1 rP rN I1;have HO:=zh rP;clear rP I1;have NX:=zh rN;clear rN;go_wp2_with fail;go_ret;refine⟨v',rfl,by simpa using HO.out,?_⟩;exact((Below.refl _ w).alloc (Nat.le_refl _) _).grown NX.out YR (by intro k hk;simp[Value.ownBlock] at hk;omega)
theorem clone_nil(c:Nat)(w:World):
  Calls Tryz.prog 108 #[.slice none 0 c] w fun e w'=>∃v',e=.returned v'/\w'.ownsRow w.heap.size 69 2 v' 0 []/\Below w.heap.size w w':=by
 have QI:∀(w:World)(a:Option Addr)(n c n' c':Nat),(binOp .eql 64 (.slice a n c) (.slice none n' c')).run Tryz.prog w=.ok (.bool a.isNone) w:=fun w a n c n' c'=>Lib.run_eql_slice_nil w _ _ a n c n' c' Tryz.underlying64;go_enter Tryz.func108,Tryz.ntmps108;go_wp2_with fail;go_ret;exact⟨_,rfl,World.ownsRow_nil _ _ _ _,Below.refl _ _⟩
theorem clone_any(l:List Fil)(v:Value)(w:World)(hv:pJ w v l)(hl:l.length<=1000000):
  Calls Tryz.prog 108 #[v] w fun e w'=>∃v',e=.returned v'/\w'.ownsRow w.heap.size 69 2 v' l.length (dX l)/\Below w.heap.size w w':=by
 rcases hv.cases with⟨rfl,a,c,rfl⟩|⟨b,o,c,rfl,h0,h1,h2,hb,hc⟩
 ·cases a with
  |none=>exact clone_nil c w
  |some a=>exact clone_some a c [] w (fun j u h=>by simp[dX] at h) hl
 refine clone_some _ c l w (fun j u h=>?_) hl;obtain⟨i,f,hf,hh⟩:=filCells_get l j u h;obtain⟨c1,c2,-⟩:=hc i f hf;rw[Addr.add_lit];rcases hh with⟨rfl,rfl⟩|⟨rfl,rfl⟩
 ·exact c1
 rw[<-Nat.add_assoc];exact c2
end Go.Proofs.YtiionicikdnnpaaGreatDoor
