/- Texts of this seat, joined. -/
import Derived.Test.YtacgopankhpnbaaGreatDoorKZ
import Derived.Test.YtacgopankhpnbaaGreatDoorLpAxOrPuSe
set_option linter.unusedVariables false
set_option linter.unusedSimpArgs false
namespace Go.Proofs.YtacgopankhpnbaaGreatDoor
set_option maxHeartbeats 4000000
set_option maxRecDepth 100000
open Go.RowKit
theorem rF{p:Prop}(h:p:=by
 first|(exfalso;omega)|(go_wp2_with fail;go_ret;exact⟨_,rfl,fun h=>by first|assumption|(cases h;done)|omega|(simp at h;done)|(simp at h;omega),HB.out⟩)):p:=h
theorem uL{p:Prop}(h:p:=by
 clear hx;go_wp2_with fail;go_quiet(fail)
 go_wp2_with fail;go_roundw;case rel=>exact⟨q+1,vT,wH,zh (aJ HB.out _)⟩
 case measure=>simp[intOf];omega):p:=h
theorem DoIn.later{s:Stp}{files:List Fil}{clock order:List Int}{vf vl vc vo vn:Value}{u0 u1:Int}{w w':World}(h:DoIn s files clock order vf vl vc vo vn u0 u1 w)(hb:Below w.heap.size w w'):DoIn s files clock order vf vl vc vo vn u0 u1 w':=
 ⟨h.hglob.later hb,h.hsrc.later hb,h.hout,h.hfil.later hb,h.hclk.later hb,h.hord.later hb,h.hnxt,h.hu0,h.hu1,h.hcwf,h.howf⟩
theorem jA{w:World}{v:Value}{l:List Fil}(h:eP w v l):∃a c,v=.slice a l.length c/\l.length<=9223372036854775807/\∀i f,l[i]? =some f->∃b o,a=some ⟨b,o,none⟩/\w.cell? ⟨b,o+i*2,none⟩=some (.string f.name)/\w.cell? ⟨b,o+i*2+1,none⟩=some (.string f.text)/\f.name.size<=140737488355328/\f.text.size<=140737488355328:=by
 have hh:=h;obtain⟨a,c,hv,h1,h2,-⟩:=hh;refine⟨a,c,hv,vT,fun i f hf=>?_⟩;rcases h.cases with⟨rfl,-⟩|⟨b,o,c',e,-,-,-,-,hc⟩
 ·simp at hf
 ·rw[hv] at e;cases e;obtain⟨h1,h2,h3⟩:=hc i f hf;exact⟨b,o,rfl,h1,h2,h3⟩
theorem neq_file(x y:ByteArray)(w:World):(binOp .neq 40 (.agg #[.string x,.string y]) (.agg #[.string x,.string y])).run Tryz.prog w=.ok (.bool false) w:=by
 rw[run_neq_struct,run_equalIn_struct _ _ _ _ _ vU vU];simp[go_sem,Op.eqFields]
theorem arr_eq(a b c d:Int)(w:World):(binOp .eql 31 (.agg #[.int .i64 a,.int .i64 b]) (.agg #[.int .i64 c,.int .i64 d])).run Tryz.prog w=.ok (.bool (a==c&&b==d)) w:=by
 have hu:Tryz.prog.underlying 31=some (.array 2 3):=vU;have h3:Tryz.prog.underlying 3=some (.int .i64):=vU;have hsz:∀w,(sizeOf 3).run Tryz.prog w=.ok 1 w:=fun w=>vU;have px:∀(x y:Int)w,(part 3 #[.int .i64 x,.int .i64 y] (0*1)).run Tryz.prog w=.ok (.int .i64 x) w:=fun x y w=>by simp[part,isAgg,run_underlying h3]
 have py:∀(x y:Int)w,(part 3 #[.int .i64 x,.int .i64 y] (1*1)).run Tryz.prog w=.ok (.int .i64 y) w:=fun x y w=>by simp[part,isAgg,run_underlying h3]
 have pe:∀(x y:Int)w,(Op.equalIn (9998+1) 3 (.int .i64 x) (.int .i64 y)).run Tryz.prog w=.ok (x==y) w:=fun x y w=>run_equalIn_int w 9998 3 .i64 .i64 x y h3;rw[run_eql_struct]
 have key:(Op.equalIn (9998+2) 31 (.agg #[.int .i64 a,.int .i64 b]) (.agg #[.int .i64 c,.int .i64 d])).run Tryz.prog w=.ok (a==c&&b==d) w:=by
  rw[Op.equalIn];simp only[Sem.run_bind,run_underlying hu,Result.andThen_ok,hsz,Std.Legacy.Range.forIn_eq_forIn_range',Std.Legacy.Range.size,Nat.sub_zero,Nat.add_sub_cancel,Nat.div_one];rw[show List.range' 0 2 1=[0,1] from rfl];simp only[List.forIn_cons,Sem.run_bind,px,pe,Result.andThen_ok,List.forIn_nil];cases h1:(a==c)
  ·simp
  ·cases h2:(b==d)<;>simp[py,pe]<;>simpa using h2
 rw[show(10000:Nat)=9998+2 from rfl,key];rfl
theorem jU(l:List ByteArray)(va vb:Value)(w:World)(ha:Strs w va l)(hb:Strs w vb l):
  Calls Tryz.prog 20 #[va,vb] w fun e w'=>e=.returned (.bool true)/\Below w.heap.size w w':=by
 obtain⟨a1,c1,rfl,hl,h1⟩:=iV ha;obtain⟨a2,c2,rfl,-,h2⟩:=iV hb;have H1:=zh h1;have H2:=zh h2;clear ha hb h1 h2;go_enter Tryz.func20,Tryz.ntmps20;go_wp2_with fail;go_loopw [5] (fun iv wr=>∃q:Nat,q<=l.length/\iv=.int .i64 (q:Int)/\Hid (Below w.heap.size w wr)) (fun iv _=>l.length-(intOf iv).toNat)
 case atStart=>exact⟨0,Nat.zero_le _,rfl,zh (Below.refl _ _)⟩
 case round=>
  obtain⟨q,hq,rfl,HB⟩:=hrel;rename World=>wr
  by_cases hlt:q<l.length
  ·obtain⟨x,hx,-⟩:=getElem?_of_lt hlt;obtain⟨b,o,rfl,p0,hz⟩:=H1.out q x hx;obtain⟨b2,o2,rfl,p2,-⟩:=H2.out q x hx;have p0:=aC HB.out p0;have p2:=aC HB.out p2;exact uL
  ·go_wp2_with fail;go_ret;exact⟨rfl,HB.out⟩
theorem sameFiles_same(l:List Fil)(va vb:Value)(w:World)(ha:eP w va l)(hb:eP w vb l):
  Calls Tryz.prog 19 #[va,vb] w fun e w'=>e=.returned (.bool true)/\Below w.heap.size w w':=by
 obtain⟨a1,c1,rfl,hl,h1⟩:=jA ha;obtain⟨a2,c2,rfl,-,h2⟩:=jA hb;have H1:=zh h1;have H2:=zh h2;clear ha hb h1 h2;go_enter Tryz.func19,Tryz.ntmps19;go_wp2_with fail;go_loopw [5] (fun iv wr=>∃q:Nat,q<=l.length/\iv=.int .i64 (q:Int)/\Hid (Below w.heap.size w wr)) (fun iv _=>l.length-(intOf iv).toNat)
 case atStart=>exact⟨0,Nat.zero_le _,rfl,zh (Below.refl _ _)⟩
 case round=>
  obtain⟨q,hq,rfl,HB⟩:=hrel;rename World=>wr
  by_cases hlt:q<l.length
  ·obtain⟨f,hx,-⟩:=getElem?_of_lt hlt;obtain⟨b,o,rfl,p0,p1,hz⟩:=H1.out q f hx;obtain⟨b2,o2,rfl,p2,p3,-⟩:=H2.out q f hx;have p0:=aC HB.out p0;have p1:=aC HB.out p1;have p2:=aC HB.out p2;have p3:=aC HB.out p3;have hne:=neq_file f.name f.text;exact uL
  ·go_wp2_with fail;go_ret;exact⟨rfl,HB.out⟩
def AnyB(n:Nat)(w:World)(e:Ending)(w':World):Prop:=∃q,e=.returned (.bool q)/\(q=true->n<=70)/\Below w.heap.size w w'
theorem few32_any(s:Stp)(files:List Fil)(vf vl:Value)(w:World)(hsrc:Strs w vf s.src)(hfil:eP w vl files)(hout:s.out.size<=140737488355328):
  Calls Tryz.prog 16 #[.agg #[.int .i64 s.kind,vf,.string s.out,.bool s.sorted],vl] w (AnyB files.length w):=by
 obtain⟨kind,src,out,sorted⟩:=s;dsimp only at hsrc hout ⊢;obtain⟨a1,c1,rfl,hl1,h1⟩:=iV hsrc;obtain⟨a2,c2,rfl,hl2,h2⟩:=jA hfil;have H1:=zh h1;have H2:=zh h2;have HB:=zh (aA w (.cells #[.int .i64 kind,.slice a1 src.length c1,.string out,.bool sorted] 24));obtain⟨x0,x1,x2,x3⟩:=bx4 (heap_alloc_new w (.cells #[.int .i64 kind,.slice a1 src.length c1,.string out,.bool sorted] 24));clear hsrc hfil h1 h2;go_enter Tryz.func16,Tryz.ntmps16;go_wp2_with fail;generalize w.alloc (.cells #[.int .i64 kind,.slice a1 src.length c1,.string out,.bool sorted] 24)=W at HB x0 x1 x2 x3 ⊢;go_loop [5,6] (fun nv iv=>∃q n:Nat,q<=files.length/\n<=20000/\nv=.int .i64 (n:Int)/\iv=.int .i64 (q:Int)) (fun _ iv=>files.length-(intOf iv).toNat)
 case atStart=>exact⟨0,0,Nat.zero_le _,Nat.zero_le _,rfl,rfl⟩
 case round=>
  obtain⟨q,n,hq,hn,rfl,rfl⟩:=hrel;by_cases hgo:q<files.length/\q<=70
  ·obtain⟨hlt,h70⟩:=hgo;obtain⟨f,hx,-⟩:=getElem?_of_lt hlt;obtain⟨b,o,rfl,p0,p1,hz0,hz1⟩:=H2.out q f hx;have p0:=aC HB.out p0;have p1:=aC HB.out p1;clear hx;by_cases h30:30<f.name.size
   ·have e30:(30:Int)<(f.name.size:Int):=vT;exact rF
   ·have e30:¬(30:Int)<(f.name.size:Int):=vT;by_cases h2k:20000<n+f.text.size
    ·have e2k:(20000:Int)<(n:Int)+(f.text.size:Int):=vT;exact rF
    ·have e2k:¬(20000:Int)<(n:Int)+(f.text.size:Int):=vT;go_wp2_with fail
     go_round
     (case rel=>exact⟨q+1,n+f.text.size,vT,vT,wH,wH⟩);case measure=>simp[intOf];omega
  ·by_cases hlt:q<files.length
   ·have e70:¬(q:Int)<=70:=vT;go_wp2_with fail;(go_loop [7] (fun iv=>∃z:Nat,z<=src.length/\iv=.int .i64 (z:Int)) (fun iv=>src.length-(intOf iv).toNat));case atStart=>exact⟨0,Nat.zero_le _,rfl⟩
    case round=>
     obtain⟨z,hz,rfl⟩:=hrel;by_cases hlz:z<src.length
     ·by_cases z70:z<=70
      ·obtain⟨x,hx,-⟩:=getElem?_of_lt hlz;obtain⟨b,o,rfl,p0,hz0⟩:=H1.out z x hx;have p0:=aC HB.out p0;clear hx;by_cases h30:30<x.size
       ·have e30:(30:Int)<(x.size:Int):=vT;exact rF
       ·have e30:¬(30:Int)<(x.size:Int):=vT;go_wp2_with fail
        go_round
        (case rel=>exact⟨z+1,vT,wH⟩);case measure=>simp[intOf];omega
      ·have ez:¬(z:Int)<=70:=vT;by_cases s70:src.length<=70
       ·have g1:(src.length:Int)<=70:=vT;by_cases f70:files.length<=70
        ·have g2:(files.length:Int)<=70:=vT;by_cases o30:(out.size:Int)<=30
         ·exact rF
         ·exact rF
        ·have g2:¬(files.length:Int)<=70:=vT;exact rF
       ·have g1:¬(src.length:Int)<=70:=vT;exact rF
     ·have ez:¬(z:Int)<(src.length:Int):=vT;by_cases s70:src.length<=70
      ·have g1:(src.length:Int)<=70:=vT;by_cases f70:files.length<=70
       ·have g2:(files.length:Int)<=70:=vT;by_cases o30:(out.size:Int)<=30
        ·exact rF
        ·exact rF
       ·have g2:¬(files.length:Int)<=70:=vT;exact rF
      ·have g1:¬(src.length:Int)<=70:=vT;exact rF
   ·have elt:¬(q:Int)<(files.length:Int):=vT;go_wp2_with fail;(go_loop [7] (fun iv=>∃z:Nat,z<=src.length/\iv=.int .i64 (z:Int)) (fun iv=>src.length-(intOf iv).toNat));case atStart=>exact⟨0,Nat.zero_le _,rfl⟩
    case round=>
     obtain⟨z,hz,rfl⟩:=hrel;by_cases hlz:z<src.length
     ·by_cases z70:z<=70
      ·obtain⟨x,hx,-⟩:=getElem?_of_lt hlz;obtain⟨b,o,rfl,p0,hz0⟩:=H1.out z x hx;have p0:=aC HB.out p0;clear hx;by_cases h30:30<x.size
       ·have e30:(30:Int)<(x.size:Int):=vT;exact rF
       ·have e30:¬(30:Int)<(x.size:Int):=vT;go_wp2_with fail
        go_round
        (case rel=>exact⟨z+1,vT,wH⟩);case measure=>simp[intOf];omega
      ·have ez:¬(z:Int)<=70:=vT;by_cases s70:src.length<=70
       ·have g1:(src.length:Int)<=70:=vT;by_cases f70:files.length<=70
        ·have g2:(files.length:Int)<=70:=vT;by_cases o30:(out.size:Int)<=30
         ·exact rF
         ·exact rF
        ·have g2:¬(files.length:Int)<=70:=vT;exact rF
       ·have g1:¬(src.length:Int)<=70:=vT;exact rF
     ·have ez:¬(z:Int)<(src.length:Int):=vT;by_cases s70:src.length<=70
      ·have g1:(src.length:Int)<=70:=vT;by_cases f70:files.length<=70
       ·have g2:(files.length:Int)<=70:=vT;by_cases o30:(out.size:Int)<=30
        ·exact rF
        ·exact rF
       ·have g2:¬(files.length:Int)<=70:=vT;exact rF
      ·have g1:¬(src.length:Int)<=70:=vT;exact rF
end Go.Proofs.YtacgopankhpnbaaGreatDoor
