/- Texts of this seat, joined. -/
import Derived.Test.YtacgopankhpnbaaGreatDoorSAK
set_option maxHeartbeats 32000000
set_option maxRecDepth 100000
set_option linter.unusedVariables false
set_option linter.unusedSimpArgs false
namespace Go.Proofs.YtacgopankhpnbaaGreatDoor
open Go.RowKit
theorem formed_loc(op:Int)(ho:op=2\/op=3)(c:Cod)(a:Int)(s m:ByteArray)(names:List ByteArray)(ac:Option Addr)(cc:Nat)(an:Option Addr)(cn:Nat)(N:Nat->Prop)(w:World)(hg:dH w)(hs:s.size<=8000)(hm:m.size<=8000)(hn:aK 1 cK N w (.slice an names.length cn) names):
  bT c ⟨op,a,s,m,names⟩ (.slice ac c.code.length cc) (.slice an names.length cn) w:=by
 unfold bT;dsimp only;have HR:Hid (bS c ⟨op,a,s,m,names⟩=((decide (0<=a)&&decide (a<(c.locals:Int)))&&decide (s=noB)&&decide (m=noB)&&decide (names.length=0))):=zh (by rcases ho with rfl|rfl<;>rfl);have vH:=aB (aA w (.cells #[.string c.name,.int .i64 (c.params:Int),.int .i64 (c.locals:Int),.slice ac c.code.length cc] 168)) (aA _ (.cells #[.int .i64 op,.int .i64 a,.string s,.string m,.slice an names.length cn] 171));clear hg hn;by_cases h0:0<=a
 focus
  rw[decide_eq_true h0] at HR;by_cases h1:a<(c.locals:Int)
  focus
   rw[decide_eq_true h1] at HR;simp only[Bool.true_and] at HR;by_cases rF:s=noB
   focus
    subst rF;simp only[decide_true,Bool.true_and,Bool.and_true] at HR;by_cases qT:m=noB
    focus
     subst qT;simp only[decide_true,Bool.true_and,Bool.and_true] at HR;by_cases rV:names.length=0
     focus
      rw[decide_eq_true rV] at HR;rw[rV]
     rotate_right
     focus
      have xX:((names.length:Int)==0)=false:=VQ;rw[decide_eq_false rV] at HR
    rotate_right
    focus
     have xB:(m.toList==[])=false:=VU;rw[decide_eq_false qT] at HR
   rotate_right
   focus
    have uK:(s.toList==[])=false:=V1;rw[decide_eq_false rF] at HR
  rotate_right
  focus
   rw[decide_eq_false h1] at HR
 rotate_right
 focus
  rw[decide_eq_false h0] at HR
 all_goals rcases ho with rfl|rfl
 all_goals
  go_enter Tryz.func193,Tryz.ntmps193;go_wp2_with fail;go_quiet(fail)
  go_wp2_with fail;go_ret;exact⟨aD V4,aL (aB (aA _ _) (aA _ _)) _⟩
theorem formed_code(op:Int)(ho:op=10\/op=11)(c:Cod)(a:Int)(s m:ByteArray)(names:List ByteArray)(ac:Option Addr)(cc:Nat)(an:Option Addr)(cn:Nat)(N:Nat->Prop)(w:World)(hg:dH w)(hs:s.size<=8000)(hm:m.size<=8000)(hn:aK 1 cK N w (.slice an names.length cn) names):
  bT c ⟨op,a,s,m,names⟩ (.slice ac c.code.length cc) (.slice an names.length cn) w:=by
 unfold bT;dsimp only;have HR:Hid (bS c ⟨op,a,s,m,names⟩=((decide (0<=a)&&decide (a<(c.code.length:Int)))&&decide (s=noB)&&decide (m=noB)&&decide (names.length=0))):=zh (by rcases ho with rfl|rfl<;>rfl);have vH:=aB (aA w (.cells #[.string c.name,.int .i64 (c.params:Int),.int .i64 (c.locals:Int),.slice ac c.code.length cc] 168)) (aA _ (.cells #[.int .i64 op,.int .i64 a,.string s,.string m,.slice an names.length cn] 171));clear hg hn;by_cases h0:0<=a
 focus
  rw[decide_eq_true h0] at HR;by_cases h1:a<(c.code.length:Int)
  focus
   rw[decide_eq_true h1] at HR;simp only[Bool.true_and] at HR;by_cases rF:s=noB
   focus
    subst rF;simp only[decide_true,Bool.true_and,Bool.and_true] at HR;by_cases qT:m=noB
    focus
     subst qT;simp only[decide_true,Bool.true_and,Bool.and_true] at HR;by_cases rV:names.length=0
     focus
      rw[decide_eq_true rV] at HR;rw[rV]
     rotate_right
     focus
      have xX:((names.length:Int)==0)=false:=VQ;rw[decide_eq_false rV] at HR
    rotate_right
    focus
     have xB:(m.toList==[])=false:=VU;rw[decide_eq_false qT] at HR
   rotate_right
   focus
    have uK:(s.toList==[])=false:=V1;rw[decide_eq_false rF] at HR
  rotate_right
  focus
   rw[decide_eq_false h1] at HR
 rotate_right
 focus
  rw[decide_eq_false h0] at HR
 all_goals rcases ho with rfl|rfl
 all_goals
  go_enter Tryz.func193,Tryz.ntmps193;go_wp2_with fail;go_quiet(fail)
  go_wp2_with fail;go_ret;exact⟨aD V4,aL (aB (aA _ _) (aA _ _)) _⟩
theorem formed_eight(op:Int)(ho:op=16\/op=17)(c:Cod)(a:Int)(s m:ByteArray)(names:List ByteArray)(ac:Option Addr)(cc:Nat)(an:Option Addr)(cn:Nat)(N:Nat->Prop)(w:World)(hg:dH w)(hs:s.size<=8000)(hm:m.size<=8000)(hn:aK 1 cK N w (.slice an names.length cn) names):
  bT c ⟨op,a,s,m,names⟩ (.slice ac c.code.length cc) (.slice an names.length cn) w:=by
 unfold bT;dsimp only;have HR:Hid (bS c ⟨op,a,s,m,names⟩=((decide (0<=a)&&decide (a<8))&&decide (s=noB)&&decide (m=noB)&&decide (names.length=0))):=zh (by rcases ho with rfl|rfl<;>rfl);have vH:=aB (aA w (.cells #[.string c.name,.int .i64 (c.params:Int),.int .i64 (c.locals:Int),.slice ac c.code.length cc] 168)) (aA _ (.cells #[.int .i64 op,.int .i64 a,.string s,.string m,.slice an names.length cn] 171));clear hg hn;by_cases h0:0<=a
 focus
  rw[decide_eq_true h0] at HR;by_cases h1:a<8
  focus
   rw[decide_eq_true h1] at HR;simp only[Bool.true_and] at HR;by_cases rF:s=noB
   focus
    subst rF;simp only[decide_true,Bool.true_and,Bool.and_true] at HR;by_cases qT:m=noB
    focus
     subst qT;simp only[decide_true,Bool.true_and,Bool.and_true] at HR;by_cases rV:names.length=0
     focus
      rw[decide_eq_true rV] at HR;rw[rV]
     rotate_right
     focus
      have xX:((names.length:Int)==0)=false:=VQ;rw[decide_eq_false rV] at HR
    rotate_right
    focus
     have xB:(m.toList==[])=false:=VU;rw[decide_eq_false qT] at HR
   rotate_right
   focus
    have uK:(s.toList==[])=false:=V1;rw[decide_eq_false rF] at HR
  rotate_right
  focus
   rw[decide_eq_false h1] at HR
 rotate_right
 focus
  rw[decide_eq_false h0] at HR
 all_goals rcases ho with rfl|rfl
 all_goals
  go_enter Tryz.func193,Tryz.ntmps193;go_wp2_with fail;go_quiet(fail)
  go_wp2_with fail;go_ret;exact⟨aD V4,aL (aB (aA _ _) (aA _ _)) _⟩
theorem SN{p:Prop}(h:p:=by
 go_enter Tryz.func193,Tryz.ntmps193;go_wp2_with fail;go_quiet(fail)
 go_wp2_with(go_at_call 147;refine(HS.out _ (aL (aB (aA _ _) (aA _ _)) _)).mono ?_;rintro e w2 ⟨rfl,rfl⟩);go_ret
 exact⟨aD V4,aL (aB (aA _ _) (aA _ _)) _⟩):p:=h
theorem SU{p:Prop}(h:p:=by
 go_enter Tryz.func193,Tryz.ntmps193;go_wp2_with fail;go_quiet(fail)
 go_wp2_with(go_at_call 223;refine(HA.out _ (aL (aB (aA _ _) (aA _ _)) _)).mono ?_;rintro e w2 ⟨rfl,pR⟩;have A2:=zh (aB (aL vH _) pR);obtain⟨⟨t0,t1,t2,t3,t4⟩,-⟩:=bx5 (aF pR HBI.out));go_ret
 exact⟨aD V4,A2.out⟩):p:=h
theorem SX{p:Prop}(h:p:=by
 go_ret
 exact⟨aD V4,aL (aB (aA _ _) (aA _ _)) _⟩):p:=h
theorem formed_15(c:Cod)(a:Int)(s m:ByteArray)(names:List ByteArray)(ac:Option Addr)(cc:Nat)(an:Option Addr)(cn:Nat)(N:Nat->Prop)(w:World)(hg:dH w)(hs:s.size<=8000)(hm:m.size<=8000)(hn:aK 1 cK N w (.slice an names.length cn) names):
  bT c ⟨15,a,s,m,names⟩ (.slice ac c.code.length cc) (.slice an names.length cn) w:=by
 unfold bT;dsimp only;have HR:Hid (bS c ⟨15,a,s,m,names⟩=((decide (a=1)||decide (a=2)||decide (a=4)||decide (a=8))&&decide (s=noB)&&decide (m=noB)&&decide (names.length=0))):=zh rfl;have vH:=aB (aA w (.cells #[.string c.name,.int .i64 (c.params:Int),.int .i64 (c.locals:Int),.slice ac c.code.length cc] 168)) (aA _ (.cells #[.int .i64 15,.int .i64 a,.string s,.string m,.slice an names.length cn] 171));rw[Bool.or_assoc,Bool.or_assoc] at HR;clear hg hn;by_cases h1:a=1
 focus
  subst h1;simp only[decide_true,Bool.true_or,Bool.or_true,Bool.true_and] at HR;by_cases rF:s=noB
  focus
   subst rF;simp only[decide_true,Bool.true_and,Bool.and_true] at HR;by_cases qT:m=noB
   focus
    subst qT;simp only[decide_true,Bool.true_and,Bool.and_true] at HR;by_cases rV:names.length=0
    focus
     rw[decide_eq_true rV] at HR;rw[rV]
    rotate_right
    focus
     have xX:((names.length:Int)==0)=false:=VQ;rw[decide_eq_false rV] at HR
   rotate_right
   focus
    have xB:(m.toList==[])=false:=VU;rw[decide_eq_false qT] at HR
  rotate_right
  focus
   have uK:(s.toList==[])=false:=V1;rw[decide_eq_false rF] at HR
 rotate_right
 focus
  have g1:(a==1)=false:=XG;rw[decide_eq_false h1] at HR;by_cases h2:a=2
  focus
   subst h2;simp only[decide_true,Bool.true_or,Bool.or_true,Bool.true_and] at HR;by_cases rF:s=noB
   focus
    subst rF;simp only[decide_true,Bool.true_and,Bool.and_true] at HR;by_cases qT:m=noB
    focus
     subst qT;simp only[decide_true,Bool.true_and,Bool.and_true] at HR;by_cases rV:names.length=0
     focus
      rw[decide_eq_true rV] at HR;rw[rV]
     rotate_right
     focus
      have xX:((names.length:Int)==0)=false:=VQ;rw[decide_eq_false rV] at HR
    rotate_right
    focus
     have xB:(m.toList==[])=false:=VU;rw[decide_eq_false qT] at HR
   rotate_right
   focus
    have uK:(s.toList==[])=false:=V1;rw[decide_eq_false rF] at HR
  rotate_right
  focus
   (have g2:(a==2)=false:=by rw[beq_eq_false_iff_ne];exact h2);rw[decide_eq_false h2] at HR;by_cases h4:a=4
   focus
    subst h4;simp only[decide_true,Bool.true_or,Bool.or_true,Bool.true_and] at HR;by_cases rF:s=noB
    focus
     subst rF;simp only[decide_true,Bool.true_and,Bool.and_true] at HR;by_cases qT:m=noB
     focus
      subst qT;simp only[decide_true,Bool.true_and,Bool.and_true] at HR;by_cases rV:names.length=0
      focus
       rw[decide_eq_true rV] at HR;rw[rV]
      rotate_right
      focus
       have xX:((names.length:Int)==0)=false:=VQ;rw[decide_eq_false rV] at HR
     rotate_right
     focus
      have xB:(m.toList==[])=false:=VU;rw[decide_eq_false qT] at HR
    rotate_right
    focus
     have uK:(s.toList==[])=false:=V1;rw[decide_eq_false rF] at HR
   rotate_right
   focus
    (have g4:(a==4)=false:=by rw[beq_eq_false_iff_ne];exact h4);rw[decide_eq_false h4] at HR;by_cases h8:a=8
    focus
     subst h8;simp only[decide_true,Bool.true_or,Bool.or_true,Bool.true_and] at HR;by_cases rF:s=noB
     focus
      subst rF;simp only[decide_true,Bool.true_and,Bool.and_true] at HR;by_cases qT:m=noB
      focus
       subst qT;simp only[decide_true,Bool.true_and,Bool.and_true] at HR;by_cases rV:names.length=0
       focus
        rw[decide_eq_true rV] at HR;rw[rV]
       rotate_right
       focus
        have xX:((names.length:Int)==0)=false:=VQ;rw[decide_eq_false rV] at HR
      rotate_right
      focus
       have xB:(m.toList==[])=false:=VU;rw[decide_eq_false qT] at HR
     rotate_right
     focus
      have uK:(s.toList==[])=false:=V1;rw[decide_eq_false rF] at HR
    rotate_right
    focus
     (have g8:(a==8)=false:=by rw[beq_eq_false_iff_ne];exact h8);rw[decide_eq_false h8] at HR;simp only[Bool.false_or,Bool.or_false,Bool.false_and] at HR
 all_goals
  go_enter Tryz.func193,Tryz.ntmps193;go_wp2_with fail;go_quiet(fail)
  go_wp2_with fail;go_ret;exact⟨aD V4,aL (aB (aA _ _) (aA _ _)) _⟩
theorem formed_14(c:Cod)(a:Int)(s m:ByteArray)(names:List ByteArray)(ac:Option Addr)(cc:Nat)(an:Option Addr)(cn:Nat)(N:Nat->Prop)(w:World)(hg:dH w)(hs:s.size<=8000)(hm:m.size<=8000)(hn:aK 1 cK N w (.slice an names.length cn) names):
  bT c ⟨14,a,s,m,names⟩ (.slice ac c.code.length cc) (.slice an names.length cn) w:=by
 unfold bT;dsimp only;have HR:Hid (bS c ⟨14,a,s,m,names⟩=((decide (0<=a)&&decide (a<=6)&&aP s&&(decide (m=noB)||aP m))&&decide (names.length=0))):=zh rfl;have vH:=aB (aA w (.cells #[.string c.name,.int .i64 (c.params:Int),.int .i64 (c.locals:Int),.slice ac c.code.length cc] 168)) (aA _ (.cells #[.int .i64 14,.int .i64 a,.string s,.string m,.slice an names.length cn] 171));have HS:=zh (fun W(hb:Below w.heap.size w W)=>dX s W VG (hg.later hb));have HM:=zh (fun W(hb:Below w.heap.size w W)=>dX m W VG (hg.later hb));clear hg hn;by_cases h0:0<=a
 ·rw[decide_eq_true h0] at HR;by_cases h1:a<=6
  ·rw[decide_eq_true h1] at HR;simp only[Bool.true_and] at HR
   cases sT:aP s with
   |false=>
    rw[sT] at HS HR;clear sT;exact SN
   |true=>
    rw[sT] at HS HR;clear sT;by_cases qT:m=noB
    ·subst qT;simp only[decide_true,Bool.true_or,Bool.true_and] at HR;by_cases rV:names.length=0
     ·rw[decide_eq_true rV] at HR;rw[rV];exact SN
     ·have xX:((names.length:Int)==0)=false:=VQ;rw[decide_eq_false rV] at HR;exact SN
    ·have xB:(m.toList==[])=false:=VU;rw[decide_eq_false qT] at HR;clear qT;simp only[Bool.false_or,Bool.true_and] at HR
     cases IG:aP m with
     |false=>
      rw[IG] at HM HR;clear IG;go_enter Tryz.func193,Tryz.ntmps193;go_wp2_with fail;(go_quiet(fail));go_wp2_with fail;go_at_call 147;refine(HS.out _ (aL (aB (aA _ _) (aA _ _)) _)).mono ?_;rintro e w2 ⟨rfl,rfl⟩;go_wp2_with fail;go_at_call 147;refine(HM.out _ (aL (aB (aA _ _) (aA _ _)) _)).mono ?_;rintro e w3 ⟨rfl,rfl⟩;go_wp2_with fail;exact SX
     |true=>
      rw[IG] at HM HR;clear IG;simp only[Bool.true_and] at HR;by_cases rV:names.length=0
      ·rw[decide_eq_true rV] at HR;rw[rV];go_enter Tryz.func193,Tryz.ntmps193;go_wp2_with fail;(go_quiet(fail));go_wp2_with fail;go_at_call 147;refine(HS.out _ (aL (aB (aA _ _) (aA _ _)) _)).mono ?_;rintro e w2 ⟨rfl,rfl⟩;go_wp2_with fail;go_at_call 147;refine(HM.out _ (aL (aB (aA _ _) (aA _ _)) _)).mono ?_;rintro e w3 ⟨rfl,rfl⟩;go_wp2_with fail;exact SX
      ·have xX:((names.length:Int)==0)=false:=VQ;rw[decide_eq_false rV] at HR;go_enter Tryz.func193,Tryz.ntmps193;go_wp2_with fail;(go_quiet(fail));go_wp2_with fail;go_at_call 147;refine(HS.out _ (aL (aB (aA _ _) (aA _ _)) _)).mono ?_;rintro e w2 ⟨rfl,rfl⟩;go_wp2_with fail;go_at_call 147;refine(HM.out _ (aL (aB (aA _ _) (aA _ _)) _)).mono ?_;rintro e w3 ⟨rfl,rfl⟩;go_wp2_with fail;exact SX
  ·rw[decide_eq_false h1] at HR;go_enter Tryz.func193,Tryz.ntmps193;go_wp2_with fail;(go_quiet(fail));go_wp2_with fail;exact SX
 ·rw[decide_eq_false h0] at HR;go_enter Tryz.func193,Tryz.ntmps193;go_wp2_with fail;go_quiet(fail)
  go_wp2_with fail;exact SX
theorem formed_12(c:Cod)(a:Int)(s m:ByteArray)(names:List ByteArray)(ac:Option Addr)(cc:Nat)(an:Option Addr)(cn:Nat)(N:Nat->Prop)(w:World)(hg:dH w)(hs:s.size<=8000)(hm:m.size<=8000)(hn:aK 1 cK N w (.slice an names.length cn) names):
  bT c ⟨12,a,s,m,names⟩ (.slice ac c.code.length cc) (.slice an names.length cn) w:=by
 unfold bT;dsimp only;have HR:Hid (bS c ⟨12,a,s,m,names⟩=((nM none names&&decide (names.length<=8))&&decide (a=0)&&decide (s=noB)&&decide (m=noB))):=zh rfl;have vH:=aB (aA w (.cells #[.string c.name,.int .i64 (c.params:Int),.int .i64 (c.locals:Int),.slice ac c.code.length cc] 168)) (aA _ (.cells #[.int .i64 12,.int .i64 a,.string s,.string m,.slice an names.length cn] 171));have HA:=zh (fun W(hb:Below w.heap.size w W)=>ascending_any names N _ W (hg.later hb) (hn.moves aQ (bM.later hb) VI));have HBI:=zh (heap_alloc_new (w.alloc (.cells #[.string c.name,.int .i64 (c.params:Int),.int .i64 (c.locals:Int),.slice ac c.code.length cc] 168)) (.cells #[.int .i64 12,.int .i64 a,.string s,.string m,.slice an names.length cn] 171));clear hg hn;generalize (nM none names&&decide (names.length<=8))=r at HA HR
 cases r with
 |false=>
  exact SU
 |true=>
  simp only[Bool.true_and] at HR;by_cases ha:a=0
  ·subst ha;simp only[decide_true,Bool.true_and,Bool.and_true] at HR;by_cases rF:s=noB
   ·subst rF;simp only[decide_true,Bool.true_and,Bool.and_true] at HR;by_cases qT:m=noB
    ·subst qT;simp only[decide_true,Bool.true_and,Bool.and_true] at HR;exact SU
    ·have xB:(m.toList==[])=false:=VU;rw[decide_eq_false qT] at HR;exact SU
   ·have uK:(s.toList==[])=false:=V1;rw[decide_eq_false rF] at HR;exact SU
  ·have qD:(a==0)=false:=YP;rw[decide_eq_false ha] at HR;exact SU
theorem iC(op:Int)(ho:op=4\/op=5\/op=6\/op=7\/op=8\/op=9\/op=18\/op=19)(c:Cod)(a:Int)(s m:ByteArray)(names:List ByteArray)(ac:Option Addr)(cc:Nat)(an:Option Addr)(cn:Nat)(N:Nat->Prop)(w:World)(hg:dH w)(hs:s.size<=8000)(hm:m.size<=8000)(hn:aK 1 cK N w (.slice an names.length cn) names):
  bT c ⟨op,a,s,m,names⟩ (.slice ac c.code.length cc) (.slice an names.length cn) w:=by
 unfold bT;dsimp only;have HR:Hid (bS c ⟨op,a,s,m,names⟩=(decide (a=0)&&decide (s=noB)&&decide (m=noB)&&decide (names.length=0))):=zh (by rcases ho with rfl|rfl|rfl|rfl|rfl|rfl|rfl|rfl<;>rfl);have vH:=aB (aA w (.cells #[.string c.name,.int .i64 (c.params:Int),.int .i64 (c.locals:Int),.slice ac c.code.length cc] 168)) (aA _ (.cells #[.int .i64 op,.int .i64 a,.string s,.string m,.slice an names.length cn] 171));clear hg hn;by_cases ha:a=0
 focus
  subst ha;simp only[decide_true,Bool.true_and,Bool.and_true] at HR;by_cases rF:s=noB
  focus
   subst rF;simp only[decide_true,Bool.true_and,Bool.and_true] at HR;by_cases qT:m=noB
   focus
    subst qT;simp only[decide_true,Bool.true_and,Bool.and_true] at HR;by_cases rV:names.length=0
    focus
     rw[decide_eq_true rV] at HR;rw[rV]
    rotate_right
    focus
     have xX:((names.length:Int)==0)=false:=VQ;rw[decide_eq_false rV] at HR
   rotate_right
   focus
    have xB:(m.toList==[])=false:=VU;rw[decide_eq_false qT] at HR
  rotate_right
  focus
   have uK:(s.toList==[])=false:=V1;rw[decide_eq_false rF] at HR
 rotate_right
 focus
  have qD:(a==0)=false:=YP;rw[decide_eq_false ha] at HR
 all_goals rcases ho with rfl|rfl|rfl|rfl|rfl|rfl|rfl|rfl
 all_goals
  go_enter Tryz.func193,Tryz.ntmps193;go_wp2_with fail;go_quiet(fail)
  go_wp2_with fail;go_ret;exact⟨aD V4,aL (aB (aA _ _) (aA _ _)) _⟩
def NeedsSays(i:Ins)(vn:Value)(w:World):Prop:=
 Calls Tryz.prog 194 #[.agg #[.int .i64 i.op,.int .i64 i.a,.string i.s,.string i.m,vn]] w fun e w'=>e=.returned (.tuple #[.int .i64 (jT i).1,.int .i64 (jT i).2])/\Below w.heap.size w w'
theorem cneeds_any(i:Ins)(an:Option Addr)(cn:Nat)(w:World)(h0:0<=i.op)(h1:i.op<20):NeedsSays i (.slice an i.names.length cn) w:=by
 obtain⟨op,a,s,m,names⟩:=i;dsimp only at h0 h1;unfold NeedsSays
 obtain⟨p,q,e,hc⟩:∃p q:Int,jT ⟨op,a,s,m,names⟩=(p,q)/\(op=0/\p=0/\q=1\/op=1/\p=0/\q=1\/op=2/\p=0/\q=1\/op=3/\p=1/\q=0\/op=4/\p=2/\q=1\/op=5/\p=2/\q=1\/op=6/\p=2/\q=1\/op=7/\p=2/\q=1\/op=8/\p=2/\q=1\/op=9/\p=1/\q=1\/op=10/\p=0/\q=0\/op=11/\p=1/\q=0\/op=12/\p=(names.length:Int)/\q=1\/op=13/\p=1/\q=1\/op=14/\p=a/\q=1\/op=15/\p=1/\q=1\/op=16/\p=0/\q=1\/op=17/\p=1/\q=1\/op=18/\p=1/\q=0\/op=19/\p=1/\q=0):=by
  have hc:op=0\/op=1\/op=2\/op=3\/op=4\/op=5\/op=6\/op=7\/op=8\/op=9\/op=10\/op=11\/op=12\/op=13\/op=14\/op=15\/op=16\/op=17\/op=18\/op=19:=VG;rcases hc with rfl|rfl|rfl|rfl|rfl|rfl|rfl|rfl|rfl|rfl|rfl|rfl|rfl|rfl|rfl|rfl|rfl|rfl|rfl|rfl<;>exact⟨_,_,rfl,VL⟩
 rw[e];clear e h0 h1;dsimp only;rcases hc with⟨rfl,rfl,rfl⟩|⟨rfl,rfl,rfl⟩|⟨rfl,rfl,rfl⟩|⟨rfl,rfl,rfl⟩|⟨rfl,rfl,rfl⟩|⟨rfl,rfl,rfl⟩|⟨rfl,rfl,rfl⟩|⟨rfl,rfl,rfl⟩|⟨rfl,rfl,rfl⟩|⟨rfl,rfl,rfl⟩|⟨rfl,rfl,rfl⟩|⟨rfl,rfl,rfl⟩|⟨rfl,rfl,rfl⟩|⟨rfl,rfl,rfl⟩|⟨rfl,rfl,rfl⟩|⟨rfl,rfl,rfl⟩|⟨rfl,rfl,rfl⟩|⟨rfl,rfl,rfl⟩|⟨rfl,rfl,rfl⟩|⟨rfl,rfl,rfl⟩
 all_goals
  go_enter Tryz.func194,Tryz.ntmps194;go_wp2_with fail;go_ret2;exact⟨rfl,aA _ _⟩
theorem alloc3(w:World)(A B C:Obj):(((w.alloc A).alloc B).alloc C).heap[w.heap.size+1+1]? =some C:=by
 have h:=heap_alloc_new ((w.alloc A).alloc B) C;rw[show((w.alloc A).alloc B).heap.size=w.heap.size+1+1 by simp] at h;exact h
theorem cints_nil(w:World):gN w (.slice none 0 0) []:=⟨none,0,rfl,VL,VL,fun h=>absurd rfl h⟩
theorem ints_of{w:World}{b n:Nat}{l:List Int}{t:TypeId}(h:w.heap[b]? =some (.cells (l.map (Value.int .i64)).toArray t))(hn:l.length=n)(hl:l.length<=9223372036854775807):gN w (.slice (some ⟨b,0,none⟩) n n) l:=by
 subst hn;refine⟨_,_,rfl,Nat.le_refl _,hl,fun _=>⟨b,0,rfl,fun i x hx=>⟨[.int .i64 x],rfl,rfl,fun j u hu=>?_⟩⟩⟩
 cases j with
 |zero=>
  simp at hu;subst hu;simp[World.cell?,h,hx]
 |succ j=>simp at hu
def eP(op a:Int)(k n:Nat)(nm:ByteArray)(pr lc:Int)(b o cp:Nat)(r:List Int)(w:World):Prop:=
 Calls Tryz.prog 195 #[.agg #[.string nm,.int .i64 pr,.int .i64 lc,.slice (some ⟨b,o,none⟩) n cp],.int .i64 (k:Int)] w fun e w'=>∃x y z,e=.returned (.slice x y z)/\gN w' (.slice x y z) r/\Below w.heap.size w w'/\∀k,(Value.slice x y z).ownBlock=some k->w.heap.size<=k
theorem behind_18(op a:Int)(k n:Nat)(nm s m:ByteArray)(pr lc:Int)(an:Option Addr)(ln cn b o cp:Nat)(w:World)(hk:k<n)(hn:n<=1000000000000)(sJ:op=18)(h0:w.cell? ⟨b,o+k*5,none⟩=some (.int .i64 op))(h1:w.cell? ⟨b,o+k*5+1,none⟩=some (.int .i64 a))(h2:w.cell? ⟨b,o+k*5+2,none⟩=some (.string s))(h3:w.cell? ⟨b,o+k*5+3,none⟩=some (.string m))(h4:w.cell? ⟨b,o+k*5+4,none⟩=some (.slice an ln cn)):
  eP op a k n nm pr lc b o cp [] w:=by
 unfold eP;have pT:=cU h0;subst sJ;go_enter Tryz.func195,Tryz.ntmps195;go_wp2_with fail;go_ret;exact⟨_,_,_,rfl,cints_nil _,by repeat(first|exact Below.refl _ _|refine Below.drew ?_|refine Below.alloc ?_ WV _|refine Below.setCell ?_ WV _),fun k hk=>by simp[Value.ownBlock] at hk⟩
theorem behind_10(op a:Int)(k n:Nat)(nm s m:ByteArray)(pr lc:Int)(an:Option Addr)(ln cn b o cp:Nat)(w:World)(hk:k<n)(hn:n<=1000000000000)(sJ:op=10)(h0:w.cell? ⟨b,o+k*5,none⟩=some (.int .i64 op))(h1:w.cell? ⟨b,o+k*5+1,none⟩=some (.int .i64 a))(h2:w.cell? ⟨b,o+k*5+2,none⟩=some (.string s))(h3:w.cell? ⟨b,o+k*5+3,none⟩=some (.string m))(h4:w.cell? ⟨b,o+k*5+4,none⟩=some (.slice an ln cn)):
  eP op a k n nm pr lc b o cp [a] w:=by
 unfold eP;have pT:=cU h0;subst sJ;go_enter Tryz.func195,Tryz.ntmps195;go_wp2_with fail;go_ret;exact⟨_,_,_,rfl,ints_of (l:=[a]) (t:=3) (alloc3 w _ _ _) rfl VL,by repeat(first|exact Below.refl _ _|refine Below.drew ?_|refine Below.alloc ?_ WV _|refine Below.setCell ?_ WV _),fun k hk=>YQ⟩
theorem behind_11(op a:Int)(k n:Nat)(nm s m:ByteArray)(pr lc:Int)(an:Option Addr)(ln cn b o cp:Nat)(w:World)(hk:k<n)(hn:n<=1000000000000)(sJ:op=11)(h0:w.cell? ⟨b,o+k*5,none⟩=some (.int .i64 op))(h1:w.cell? ⟨b,o+k*5+1,none⟩=some (.int .i64 a))(h2:w.cell? ⟨b,o+k*5+2,none⟩=some (.string s))(h3:w.cell? ⟨b,o+k*5+3,none⟩=some (.string m))(h4:w.cell? ⟨b,o+k*5+4,none⟩=some (.slice an ln cn)):
  eP op a k n nm pr lc b o cp [(k:Int)+1,a] w:=by
 unfold eP;have pT:=cU h0;subst sJ;go_enter Tryz.func195,Tryz.ntmps195;go_wp2_with fail;go_ret;exact⟨_,_,_,rfl,ints_of (l:=[(k:Int)+1,a]) (t:=3) (alloc3 w _ _ _) rfl VL,by repeat(first|exact Below.refl _ _|refine Below.drew ?_|refine Below.alloc ?_ WV _|refine Below.setCell ?_ WV _),fun k hk=>YQ⟩
theorem behind_else(op a:Int)(k n:Nat)(nm s m:ByteArray)(pr lc:Int)(an:Option Addr)(ln cn b o cp:Nat)(w:World)(hk:k<n)(hn:n<=1000000000000)(sJ:op≠18/\op≠10/\op≠11)(h0:w.cell? ⟨b,o+k*5,none⟩=some (.int .i64 op))(h1:w.cell? ⟨b,o+k*5+1,none⟩=some (.int .i64 a))(h2:w.cell? ⟨b,o+k*5+2,none⟩=some (.string s))(h3:w.cell? ⟨b,o+k*5+3,none⟩=some (.string m))(h4:w.cell? ⟨b,o+k*5+4,none⟩=some (.slice an ln cn)):
  eP op a k n nm pr lc b o cp [(k:Int)+1] w:=by
 unfold eP;have pT:=cU h0;have g18:(op==18)=false:=by rw[beq_eq_false_iff_ne];exact sJ.1
 have g10:(op==10)=false:=by rw[beq_eq_false_iff_ne];exact sJ.2.1
 have g11:(op==11)=false:=by rw[beq_eq_false_iff_ne];exact sJ.2.2
 clear sJ;go_enter Tryz.func195,Tryz.ntmps195;go_wp2_with fail;go_ret;exact⟨_,_,_,rfl,ints_of (l:=[(k:Int)+1]) (t:=3) (alloc3 w _ _ _) rfl VL,by repeat(first|exact Below.refl _ _|refine Below.drew ?_|refine Below.alloc ?_ WV _|refine Below.setCell ?_ WV _),fun k hk=>YQ⟩
def lB(w:World)(g:Nat)(L:List Int):Prop:=w.heap[g]? =some (.cells (L.map (Value.int .i64)).toArray 3)
section
variable {w w':World} {g:Nat} {L:List Int}
theorem lB.lt(h:lB w g L):g<w.heap.size:=(Array.getElem?_eq_some_iff.1 h).1
theorem lB.later(h:lB w g L)(hb:Below w.heap.size w w'):lB w' g L:=aF hb h
theorem lB.at_(h:lB w g L){i:Nat}{q:Int}(hq:L[i]? =some q):w.cell? ⟨g,i,none⟩=some (.int .i64 q)/\w.frozen? ⟨g,i,none⟩=false:=by
 refine⟨?_,?_⟩<;>simp[World.cell?,World.frozen?,show w.heap[g]? =_ from h,hq]
theorem lB.get(h:lB w g L){i:Nat}(hi:i<L.length):w.cell? ⟨g,i,none⟩=some (.int .i64 (L.getD i 0))/\w.frozen? ⟨g,i,none⟩=false:=by
 refine h.at_ ?_;rw[List.getD_eq_getElem?_getD,List.getElem?_eq_getElem hi];rfl
theorem lB.set(h:lB w g L)(i:Nat)(q:Int):lB (w.setCell ⟨g,i,none⟩ (.int .i64 q)) g (L.set i q):=by
 unfold lB;rw[aO h];simp
theorem lB.off{S:Nat->Prop}(h:lB w g L)(ho:Off S w w')(hS:¬S g):lB w' g L:=ho.heap hS h
end
theorem made_int(n:Nat):madeCells #[.int .i64 0] n=((List.replicate n (0:Int)).map (Value.int .i64)).toArray:=by
 apply Array.toList_inj.1;rw[toList_madeCells_one];simp
theorem make_ints(n:Nat)(hn:n<=1000000000000)(w:World):(Instr.makeSlice 26 (.int .i64 (n:Int)) (.int .i64 (n:Int))).run Tryz.prog w=.ok (.slice (some ⟨w.heap.size,0,none⟩) n n) (w.alloc (.cells ((List.replicate n (0:Int)).map (Value.int .i64)).toArray 3)):=by
 obtain⟨i0,tF,rS,qI,qH⟩:=info_parts intInfo;have:=run_make (P:=Tryz.prog) w 26 3 i0 _ Tryz.underlying26 tF rS .i64 .i64 n n VG (Int.le_refl _) (by rw[qH];omega) VG;rw[this,qI,<-made_int,Nat.mul_one];rfl
def Que(B:Nat)(v:Value)(l:List Int)(w:World):Prop:=∃g off cap cur,v=.slice (some ⟨g,off,none⟩) l.length cap/\B<=g/\w.heap[g]? =some (.cells cur 3 (0,0))/\l.length<=cap/\cap<=maxLen/\off+cap<=cur.size/\∀i x,l[i]? =some x->cur[off+i]? =some (.int .i64 x)
section
variable {B:Nat} {v:Value} {l:List Int} {w w':World}
theorem Que.first{k:Int}{b:Nat}(hb:w.heap[b]? =some (.cells #[.int .i64 k] 3))(hB:B<=b):Que B (.slice (some ⟨b,0,none⟩) 1 1) [k] w:=
 ⟨b,0,1,_,rfl,hB,hb,Nat.le_refl _,VI,VL,fun i x hx=>by
  cases i with
  |zero=>simp at hx;subst hx;rfl
  |succ i=>simp at hx⟩
theorem Que.off{S:Nat->Prop}(h:Que B v l w)(ho:Off S w w')(hS:∀b,v.ownBlock=some b->¬S b):Que B v l w':=by
 obtain⟨g,off,cap,cur,rfl,h1,h2,h3⟩:=h;exact⟨g,off,cap,cur,rfl,h1,ho.heap (hS g rfl) h2,h3⟩
theorem Que.later(h:Que B v l w)(hb:Below w.heap.size w w'):Que B v l w':=h.off (Off.of_below (S:=fun _=>False) hb) (fun _ _ h=>h)
theorem Que.own(h:Que B v l w):∀b,v.ownBlock=some b->B<=b/\b<w.heap.size:=by
 obtain⟨g,off,cap,cur,rfl,h1,h2,h3⟩:=h;intro b hb;have e:g=b:=XQ;subst e;exact⟨h1,(Array.getElem?_eq_some_iff.1 h2).1⟩
theorem Que.pop{k:Int}(h:Que B v (k::l) w):∃g off cap,v=.slice (some ⟨g,off,none⟩) (l.length+1) (cap+1)/\l.length<=cap/\cap<=maxLen/\w.cell? ⟨g,off,none⟩=some (.int .i64 k)/\Que B (.slice (some ⟨g,off+1,none⟩) l.length cap) l w:=by
 obtain⟨g,off,cap,cur,rfl,h1,h2,h3,h4,h5,h6⟩:=h;simp only[List.length_cons] at h3;obtain⟨cap',rfl⟩:∃c,cap=c+1:=⟨cap-1,VG⟩;refine⟨g,off,cap',rfl,VG,VG,?_,g,off+1,cap',cur,rfl,h1,h2,VG,VG,VG,fun i x hx=>?_⟩
 ·have:=h6 0 k rfl;simp only[Nat.add_zero] at this;simp[World.cell?,h2,this]
 ·have:=h6 (i+1) x (by simpa using hx);rw[show off+1+i=off+(i+1) by omega];exact this
end
theorem nP{ops:Array Oper}{rest:List Oper}{o:Oper}{a:Act}{Q:Exit->Act->World->Prop}{B:Nat}{v:Value}{l:List Int}{w:World}{k:Int}{nb:Nat}(hg:o.guard=none)(s x:Operand)
  (sJ:o.op=Op.call {callee:=Callee.builtin Builtin.append,args:=#[s,x],argTypes:=#[26,26]}) (hq:Que B v l w) (hs:a.eval s=v) (hx:a.eval x=.slice (some ⟨nb,0,none⟩) 1 1)
  (xF:w.heap[nb]? =some (.cells #[.int .i64 k] 3)) (hlen:l.length<=1000000000000) (hB:B<=w.heap.size)
  (hK:∀v' w',Que B v' (l++[k]) w'->Off (fun b=>v.ownBlock=some b) w w'->(∀b,v'.ownBlock=some b->v.ownBlock=some b\/w.heap.size<=b)->wpList Tryz.prog ops Q rest (a.put o.dst v') w'):wpList Tryz.prog ops Q (o::rest) a w:=by
 obtain⟨i0,tF,rS,qI,qH⟩:=info_parts intInfo;obtain⟨g,off,cap,cur,rfl,h1,h2,h3,h4,h5,h6⟩:=hq
 have LZ:∀j u,(l.map (Value.int .i64))[j]? =some u->w.cell? ⟨g,off+j,none⟩=some u:=fun j u hu=>by
  rw[List.getElem?_map] at hu
  cases hl:l[j]? with
  |none=>rw[hl] at hu;cases hu
  |some y=>rw[hl] at hu;cases hu;simp[World.cell?,h2,h6 j y hl]
 refine wpList_append_arg w hg s x 26 sJ 3 i0 _ 1 8 Tryz.underlying26 tF rS qI qH rfl VI g off l.length cap (l.map (Value.int .i64)) hs VL LZ ⟨nb,0,none⟩ 1 1 [.int .i64 k] hx rfl (World.news_of_block (cs:=#[.int .i64 k]) (t:=3) (fr:=(0,0)) xF) VX
  (fun hr j hj=>?_) VR VG (fun hr=>?_) (fun hr v' w' pP pO=>?_)
 ·have hj0:j=0:=by simpa using hj
  subst hj0;have pT:off+l.length*1+0<cur.size:=VG;have:=bx h2 (off+l.length*1+0) (u:=cur[off+l.length*1+0]) (Array.getElem?_eq_getElem pT);exact⟨by rw[this.1];rfl,this.2⟩
 ·refine hK _ _ ⟨g,off,cap,cur.setIfInBounds (off+l.length) (.int .i64 k),VL,h1,?_,by simpa using hr,h4,by simpa using h5,fun i y hy=>?_⟩ ?_ (fun b hb=>.inl hb)
  ·rw[Nat.mul_one];exact aO h2 _
  ·by_cases hi:i<l.length
   ·rw[List.getElem?_append_left hi] at hy;rw[Array.getElem?_setIfInBounds_ne VG];exact h6 i y hy
   ·have GO:i=l.length:=by
     have:=(List.getElem?_eq_some_iff.1 hy).1;simp at this;omega
    subst GO;simp at hy;subst hy;rw[Array.getElem?_setIfInBounds_self_of_lt VG]
  ·exact Off.setCell (S:=fun b=>(Value.slice (some ⟨g,off,none⟩) l.length cap).ownBlock=some b) w (o:=off+l.length*1) rfl
 ·obtain⟨xX,xW⟩:=pP;rcases xW with⟨-,h0⟩|⟨g',cap',cur',rfl,hge,DW,r1,r2,r3,r4⟩
  ·omega
  ·refine hK _ _ ⟨g',0,cap',cur',VL,Nat.le_trans hB hge,DW,by simpa using r1,r2,VG,fun i y hy=>?_⟩ (Off.of_below ⟨pO.os,pO.tape,pO.output,pO.size,fun k hk=>pO.block k hk VL⟩) (fun b hb=>.inr ?_)
   ·(have hi:i<l.length+1:=by have:=(List.getElem?_eq_some_iff.1 hy).1;simpa using this);(have h7:(l++[k]).map (Value.int .i64)=cur'.toList.take ((l.length+1)*1):=by rw[r4];simp);have h8:=congrArg (fun t:List Value=>t[i]?) h7;simp only[List.getElem?_map,hy,List.getElem?_take,if_pos (show i<(l.length+1)*1 by omega)] at h8;rw[Nat.zero_add];simpa using h8.symm
   ·have e:g'=b:=XQ;subst e;exact hge
end Go.Proofs.YtacgopankhpnbaaGreatDoor
namespace Go.Proofs.YtacgopankhpnbaaGreatDoor
open Go.RowKit
theorem formed_none(c:Cod)(op a:Int)(s m:ByteArray)(names:List ByteArray)(ac:Option Addr)(cc:Nat)(an:Option Addr)(cn:Nat)(w:World)(sJ:¬(0<=op/\op<20)):
  bT c ⟨op,a,s,m,names⟩ (.slice ac c.code.length cc) (.slice an names.length cn) w:=by
 unfold bT;dsimp only;have e0:op≠0:=VG;have e1:op≠1:=VG;have e2:op≠2:=VG;have e3:op≠3:=VG;have e4:op≠4:=VG;have e5:op≠5:=VG;have e6:op≠6:=VG;have e7:op≠7:=VG;have e8:op≠8:=VG;have e9:op≠9:=VG;have e10:op≠10:=VG;have e11:op≠11:=VG;have e12:op≠12:=VG;have e13:op≠13:=VG;have e14:op≠14:=VG;have e15:op≠15:=VG;have e16:op≠16:=VG;have e17:op≠17:=VG;have MD:op≠18:=VG;have e19:op≠19:=VG;have HR:Hid (bS c ⟨op,a,s,m,names⟩=false):=zh (by simp[bS,e0,e1,e2,e3,e4,e5,e6,e7,e8,e9,e10,e11,e12,e13,e14,e15,e16,e17,MD,e19]);have g0:(op==0)=false:=by rw[beq_eq_false_iff_ne];exact e0
 have g1:(op==1)=false:=by rw[beq_eq_false_iff_ne];exact e1
 have g2:(op==2)=false:=by rw[beq_eq_false_iff_ne];exact e2
 have g3:(op==3)=false:=by rw[beq_eq_false_iff_ne];exact e3
 have g4:(op==4)=false:=by rw[beq_eq_false_iff_ne];exact e4
 have g5:(op==5)=false:=by rw[beq_eq_false_iff_ne];exact e5
 have g6:(op==6)=false:=by rw[beq_eq_false_iff_ne];exact e6
 have g7:(op==7)=false:=by rw[beq_eq_false_iff_ne];exact e7
 have g8:(op==8)=false:=by rw[beq_eq_false_iff_ne];exact e8
 have g9:(op==9)=false:=by rw[beq_eq_false_iff_ne];exact e9
 have g10:(op==10)=false:=by rw[beq_eq_false_iff_ne];exact e10
 have g11:(op==11)=false:=by rw[beq_eq_false_iff_ne];exact e11
 have g12:(op==12)=false:=by rw[beq_eq_false_iff_ne];exact e12
 have g13:(op==13)=false:=by rw[beq_eq_false_iff_ne];exact e13
 have g14:(op==14)=false:=by rw[beq_eq_false_iff_ne];exact e14
 have g15:(op==15)=false:=by rw[beq_eq_false_iff_ne];exact e15
 have g16:(op==16)=false:=by rw[beq_eq_false_iff_ne];exact e16
 have g17:(op==17)=false:=by rw[beq_eq_false_iff_ne];exact e17
 have g18:(op==18)=false:=by rw[beq_eq_false_iff_ne];exact MD
 have g19:(op==19)=false:=by rw[beq_eq_false_iff_ne];exact e19
 clear sJ e0 e1 e2 e3 e4 e5 e6 e7 e8 e9 e10 e11 e12 e13 e14 e15 e16 e17 MD e19;go_enter Tryz.func193,Tryz.ntmps193;go_wp2_with fail;go_quiet(fail)
 go_wp2_with fail;exact SX
theorem formed_any(c:Cod)(i:Ins)(ac:Option Addr)(cc:Nat)(an:Option Addr)(cn:Nat)(N:Nat->Prop)(w:World)(hg:dH w)(hs:i.s.size<=8000)(hm:i.m.size<=8000)(hn:aK 1 cK N w (.slice an i.names.length cn) i.names):
  bT c i (.slice ac c.code.length cc) (.slice an i.names.length cn) w:=by
 obtain⟨op,a,s,m,names⟩:=i;dsimp only at hs hm hn ⊢;by_cases h:0<=op/\op<20
 ·have hc:op=0\/op=1\/op=2\/op=3\/op=4\/op=5\/op=6\/op=7\/op=8\/op=9\/op=10\/op=11\/op=12\/op=13\/op=14\/op=15\/op=16\/op=17\/op=18\/op=19:=VG;rcases hc with rfl|rfl|rfl|rfl|rfl|rfl|rfl|rfl|rfl|rfl|rfl|rfl|rfl|rfl|rfl|rfl|rfl|rfl|rfl|rfl
  ·exact formed_0 c a s m names ac cc an cn N w hg hs hm hn
  ·exact formed_1 c a s m names ac cc an cn N w hg hs hm hn
  ·exact formed_loc 2 VL c a s m names ac cc an cn N w hg hs hm hn
  ·exact formed_loc 3 VL c a s m names ac cc an cn N w hg hs hm hn
  ·exact iC 4 VL c a s m names ac cc an cn N w hg hs hm hn
  ·exact iC 5 VL c a s m names ac cc an cn N w hg hs hm hn
  ·exact iC 6 VL c a s m names ac cc an cn N w hg hs hm hn
  ·exact iC 7 VL c a s m names ac cc an cn N w hg hs hm hn
  ·exact iC 8 VL c a s m names ac cc an cn N w hg hs hm hn
  ·exact iC 9 VL c a s m names ac cc an cn N w hg hs hm hn
  ·exact formed_code 10 VL c a s m names ac cc an cn N w hg hs hm hn
  ·exact formed_code 11 VL c a s m names ac cc an cn N w hg hs hm hn
  ·exact formed_12 c a s m names ac cc an cn N w hg hs hm hn
  ·exact formed_13 c a s m names ac cc an cn N w hg hs hm hn
  ·exact formed_14 c a s m names ac cc an cn N w hg hs hm hn
  ·exact formed_15 c a s m names ac cc an cn N w hg hs hm hn
  ·exact formed_eight 16 VL c a s m names ac cc an cn N w hg hs hm hn
  ·exact formed_eight 17 VL c a s m names ac cc an cn N w hg hs hm hn
  ·exact iC 18 VL c a s m names ac cc an cn N w hg hs hm hn
  ·exact iC 19 VL c a s m names ac cc an cn N w hg hs hm hn
 ·exact formed_none c op a s m names ac cc an cn w h
theorem behind_any(i:Ins)(k n:Nat)(nm:ByteArray)(pr lc:Int)(an:Option Addr)(ln cn b o cp:Nat)(w:World)(hk:k<n)(hn:n<=1000000000000)(h0:w.cell? ⟨b,o+k*5,none⟩=some (.int .i64 i.op))(h1:w.cell? ⟨b,o+k*5+1,none⟩=some (.int .i64 i.a))(h2:w.cell? ⟨b,o+k*5+2,none⟩=some (.string i.s))(h3:w.cell? ⟨b,o+k*5+3,none⟩=some (.string i.m))(h4:w.cell? ⟨b,o+k*5+4,none⟩=some (.slice an ln cn)):
  eP i.op i.a k n nm pr lc b o cp (kA i (k:Int)) w:=by
 unfold kA;split
 ·exact behind_18 i.op i.a k n nm i.s i.m pr lc an ln cn b o cp w hk hn (by assumption) h0 h1 h2 h3 h4
 split
 ·exact behind_10 i.op i.a k n nm i.s i.m pr lc an ln cn b o cp w hk hn (by assumption) h0 h1 h2 h3 h4
 split
 ·exact behind_11 i.op i.a k n nm i.s i.m pr lc an ln cn b o cp w hk hn (by assumption) h0 h1 h2 h3 h4
 ·exact behind_else i.op i.a k n nm i.s i.m pr lc an ln cn b o cp w hk hn ⟨by assumption,by assumption,by assumption⟩ h0 h1 h2 h3 h4
def arrOf(w:World)(g:Nat):List Int:=match w.heap[g]? with
 |some (.cells cs _ _)=>cs.toList.map intOf
 |_=>[]
theorem lB.arrOf{w:World}{g:Nat}{L:List Int}(h:lB w g L):arrOf w g=L:=by
 unfold Proofs.YtacgopankhpnbaaGreatDoor.arrOf;rw[show w.heap[g]? =_ from h];show((L.map (Value.int .i64)).toArray.toList.map intOf)=L;rw[List.map_map]
 conv=>rhs;rw[<-List.map_id L]
 apply List.map_congr_left;intro x _;rfl
def lenOf:Value->Nat
 | .slice _ n _=>n
 |_=>0
theorem lB.some_at{w:World}{g n:Nat}{L:List Int}(h:lB w g L){i:Nat}(hl:L.length=n)(hi:i<n):∃u,w.cell? ⟨g,i,none⟩=some u/\w.frozen? ⟨g,i,none⟩=false:=⟨_,h.get VG⟩
theorem ints_each{w:World}{a:Option Addr}{y z:Nat}{l:List Int}(h:gN w (.slice a y z) l):y=l.length/\∀i x,l[i]? =some x->∃b o,a=some ⟨b,o,none⟩/\w.cell? ⟨b,o+i,none⟩=some (.int .i64 x):=by
 rcases h.cases with⟨rfl,a',c,e⟩|⟨b,o,c,e,-,-,-,-,hc⟩
 ·cases e;exact⟨rfl,fun i x hx=>by simp at hx⟩
 ·cases e;exact⟨rfl,fun i x hx=>⟨b,o,rfl,hc i x hx⟩⟩
structure mC (n:Nat) (out todo:List Int):Prop where
 len:out.length=n
 hi:∀x∈out,x+gQ out<=n
 at_:∀k∈todo,0<=k/\k<n
 few:gQ out+todo.length<=n
theorem negs_rep(n:Nat):gQ (List.replicate n (-1))=n:=by
 unfold gQ;rw[List.countP_replicate];simp
theorem negs_first{n:Nat}(hn:0<n):gQ ((List.replicate n (-1:Int)).set 0 0)+1=n:=by
 have h:=negs_set (out:=List.replicate n (-1:Int)) (k:=0) (h:=0) (by simpa using hn) (by
  rw[List.getD_eq_getElem?_getD,List.getElem?_replicate,if_pos hn];decide) VI
 rw[negs_rep] at h;exact h
theorem mC.first{n:Nat}(hn:0<n):mC n ((List.replicate n (-1:Int)).set 0 0) [0]:=by
 refine⟨VL,fun x hx=>?_,fun k hk=>?_,Nat.le_of_eq (negs_first hn)⟩
 ·have h1:=negs_first hn;rcases List.mem_or_eq_of_mem_set hx with h|rfl
  ·have:=(List.mem_replicate.1 h).2;subst this;omega
  ·omega
 ·simp at hk;subst hk;omega
theorem mC.get{n:Nat}{out todo:List Int}(h:mC n out todo){k:Nat}(hk:k<n):out.getD k 0+gQ out<=n:=by
 refine h.hi _ ?_;rw[List.getD_eq_getElem?_getD,List.getElem?_eq_getElem (by rw[h.len];exact hk)];exact List.getElem_mem _
theorem mC.tail{n:Nat}{out todo:List Int}{k:Int}(h:mC n out (k::todo)):mC n out todo:=⟨h.len,h.hi,fun x hx=>h.at_ x (by simp[hx]),by have:=h.few;rw[List.length_cons] at this;omega⟩
theorem mC.new{n:Nat}{out todo:List Int}{k:Nat}{q:Int}{x:Int}(h:mC n out todo)(hk:k<n)(uJ:out.getD k 0<0)(h0:0<=q)(hx:q<=x+1)(hxo:x+gQ out<=n):mC n (out.set k q) (todo++[(k:Int)]):=by
 have h1:=negs_set (h:=q) (by rw[h.len];exact hk) uJ h0;refine⟨by rw[List.length_set];exact h.len,fun y hy=>?_,fun y hy=>?_,by have:=h.few;rw[List.length_append,List.length_singleton];omega⟩
 ·rcases List.mem_or_eq_of_mem_set hy with h2|rfl
  ·have:=h.hi y h2;omega
  ·omega
 ·rcases List.mem_append.1 hy with h2|h2
  ·exact h.at_ y h2
  ·simp at h2;subst h2;omega
def nV(l:List Ins)(f:Nat):Option (List Int×List Int)->Bool
 |none=>false
 |some p=>(dZ l f p.1 p.2).isSome
theorem heights_bad{l:List Ins}{f:Nat}{out todo:List Int}{k:Nat}(h:out.getD k 0<(jT (nG l k)).1\/((nG l k).op=18/\out.getD k 0≠1)):(dZ l (f+1) out ((k:Int)::todo)).isSome=false:=by
 rw[dZ,if_pos WI];rfl
theorem heights_ok{l:List Ins}{f:Nat}{out todo:List Int}{k:Nat}(h:¬(out.getD k 0<(jT (nG l k)).1\/((nG l k).op=18/\out.getD k 0≠1))):
  (dZ l (f+1) out ((k:Int)::todo)).isSome=nV l f (gK l.length (out.getD k 0-(jT (nG l k)).1+(jT (nG l k)).2) (kA (nG l k) k) out todo):=by
 rw[dZ,if_neg WI];simp only[Int.toNat_natCast];unfold nV;split<;>rename_i e<;>rw[e]<;>rfl
theorem insAt_of{l:List Ins}{k:Nat}{x:Ins}(h:l[k]? =some x):nG l k=x:=by
 unfold nG;rw[List.getD_eq_getElem?_getD,h];rfl
theorem rep_set(q n:Nat)(h:q<n):(List.replicate q (-1:Int)++List.replicate (n-q) 0).set q (-1)=List.replicate (q+1) (-1)++List.replicate (n-(q+1)) 0:=by
 rw[List.set_append,if_neg VL,List.length_replicate,Nat.sub_self,show n-q=(n-(q+1))+1 by omega,List.replicate_succ,List.set_cons_zero,List.replicate_succ',List.append_assoc];rfl
theorem rightC_main{c:Cod}(h1:aP c.name=true)(h2:c.params<=6)(h3:c.params<=c.locals)(h4:c.code.length≠0)(h5:∀(k:Nat)(x:Ins),c.code[k]? =some x->bS c x=true):
  dE c=(dZ c.code (c.code.length+1) ((List.replicate c.code.length (-1:Int)).set 0 0) [0]).isSome:=by
 unfold dE;rw[h1,decide_eq_true h2,decide_eq_true h3,decide_eq_true h4,show c.code.all (bS c)=true from ?_]
 ·simp
 ·rw[List.all_eq_true];intro x hx;obtain⟨k,hk⟩:=List.getElem?_of_mem hx;exact h5 k x hk
theorem rightC_form{c:Cod}{k:Nat}{x:Ins}(hx:c.code[k]? =some x)(h:bS c x=false):dE c=false:=by
 unfold dE;rw[show c.code.all (bS c)=false from ?_]
 ·simp
 ·rw[<-Bool.not_eq_true,List.all_eq_true];intro hh;have:=hh x (List.mem_of_getElem? hx);rw[h] at this;cases this
end Go.Proofs.YtacgopankhpnbaaGreatDoor
