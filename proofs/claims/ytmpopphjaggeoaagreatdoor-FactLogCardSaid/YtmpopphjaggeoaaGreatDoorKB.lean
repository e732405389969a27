/- Texts of this seat, joined. -/
import Derived.Test.YtmpopphjaggeoaaGreatDoorZb
import Derived.Test.YtmpopphjaggeoaaGreatDoorProg
import Derived.Lib.Hide
import Derived.WalkSpells
import Derived.BigQuiet
import Derived.Shelf.Abstract
set_option linter.unusedVariables false
set_option linter.unusedSimpArgs false
set_option linter.constructorNameAsVariable false
namespace Go.Proofs.YtmpopphjaggeoaaGreatDoor
open Go.RowKit
theorem BH{p:Prop}(h:p:=by
 exact cV (hj 0 (cs[0]'(by omega)) (List.getElem?_eq_getElem _))):p:=h
theorem aF{a b:Bool}(h:a=b):Ending.returned (.bool a)=.returned (.bool b):=by rw[h]
theorem aQ{k:IntKind}{a b:Int}(h:a=b):Ending.returned (.int k a)=.returned (.int k b):=by rw[h]
theorem bF{a b:bA}(h:a=b):Ending.returned (.string a)=.returned (.string b):=by rw[h]
theorem take_snoc(s:bA)(k:Nat)(h:k<s.size):s.data.toList.take (k+1)=s.data.toList.take k++[s[k]]:=by
 rw[List.take_succ_eq_append_getElem (by simpa using h)];rfl
theorem cV{w:World}{b o:Nat}{v:Value}(h:w.cell? ⟨b,o,none⟩=some v):b<w.heap.size:=by
 by_cases hb:b<w.heap.size
 ·exact hb
 have:w.heap[b]? =none:=Array.getElem?_eq_none (by omega);simp[World.cell?,this] at h
theorem aD{w w':World}(hb:Below w.heap.size w w'){b o:Nat}{v:Value}(h:w.cell? ⟨b,o,none⟩=some v):w'.cell? ⟨b,o,none⟩=some v:=
 (hb.cell (p:=⟨b,o,none⟩) (cV h)).trans h
theorem aA{a b c:World}(h:Below a.heap.size a b)(k:Below b.heap.size b c):Below a.heap.size a c:=
 h.trans (k.mono h.size)
theorem aB(w:World)(o:Obj):Below w.heap.size w (w.alloc o):=(Below.refl _ _).alloc (Nat.le_refl _) _
def Row{α:Type}(k:Nat)(enc:World->α->List Value->Prop)(w:World)(v:Value)(l:List α):Prop:=
 ∃a c,v=.slice a l.length c/\l.length<=c/\c<=9223372036854775807/\
  (l≠[]->∃b o,a=some ⟨b,o,none⟩/\∀i x,l[i]? =some x->∃cs,enc w x cs/\cs.length=k/\∀j u,cs[j]? =some u->w.cell? ⟨b,o+i*k+j,none⟩=some u)
theorem Row.later{α:Type}{k:Nat}{enc:World->α->List Value->Prop}{w w':World}{v:Value}{l:List α}(hb:Below w.heap.size w w')
  (he:∀x cs,enc w x cs->enc w' x cs) (h:Row k enc w v l):Row k enc w' v l:=by
 obtain⟨a,c,hv,h1,h2,h3⟩:=h;refine⟨a,c,hv,h1,h2,fun kQ=>?_⟩;obtain⟨b,o,ha,hc⟩:=h3 kQ;refine⟨b,o,ha,fun i x hx=>?_⟩;obtain⟨cs,e,hl,hj⟩:=hc i x hx;exact⟨cs,he x cs e,hl,fun j u hu=>aD hb (hj j u hu)⟩
def encStr1(_:World)(x:bA)(cs:List Value):Prop:=cs=[.string x]/\x.size<=140737488355328
def Strs(w:World)(v:Value)(l:List bA):Prop:=Row 1 encStr1 w v l
theorem Strs.later{w w':World}{v:Value}{l:List bA}(hb:Below w.heap.size w w')(h:Strs w v l):Strs w' v l:=
 Row.later hb (fun _ _ h=>h) h
def encInt1(_:World)(x:Int)(cs:List Value):Prop:=cs=[.int .i64 x]
def Ints(w:World)(v:Value)(l:List Int):Prop:=Row 1 encInt1 w v l
theorem Ints.later{w w':World}{v:Value}{l:List Int}(hb:Below w.heap.size w w')(h:Ints w v l):Ints w' v l:=
 Row.later hb (fun _ _ h=>h) h
theorem Row.cases{α:Type}{k:Nat}{enc:World->α->List Value->Prop}{w:World}{v:Value}{l:List α}(h:Row (k+1) enc w v l):
  (l=[]/\∃a c,v=.slice a 0 c)\/(∃b o c,v=.slice (some ⟨b,o,none⟩) l.length c/\0<l.length/\l.length<=c/\c<=9223372036854775807/\b<w.heap.size/\
   ∀i x,l[i]? =some x->∃cs,enc w x cs/\cs.length=k+1/\∀j u,cs[j]? =some u->w.cell? ⟨b,o+i*(k+1)+j,none⟩=some u):=by
 obtain⟨a,c,hv,h1,h2,h3⟩:=h
 cases l with
 |nil=>exact .inl ⟨rfl,a,c,hv⟩
 |cons x0 l=>
  obtain⟨b,o,ha,hc⟩:=h3 (by simp);refine .inr ⟨b,o,c,by rw[hv,ha],by simp,h1,h2,?_,hc⟩;obtain⟨cs,-,hl,hj⟩:=hc 0 x0 rfl;exact BH
theorem Strs.cases{w:World}{v:Value}{l:List bA}(h:Strs w v l):
  (l=[]/\∃a c,v=.slice a 0 c)\/(∃b o c,v=.slice (some ⟨b,o,none⟩) l.length c/\0<l.length/\l.length<=c/\c<=9223372036854775807/\b<w.heap.size/\
   ∀i x,l[i]? =some x->w.cell? ⟨b,o+i,none⟩=some (.string x)/\x.size<=140737488355328):=by
 rcases Row.cases h with h|⟨b,o,c,hv,h0,h1,h2,hb,hc⟩
 ·exact .inl h
 refine .inr ⟨b,o,c,hv,h0,h1,h2,hb,fun i x hx=>?_⟩;obtain⟨cs,⟨e,hs⟩,-,hj⟩:=hc i x hx;have:=hj 0 (.string x) (by rw[e];rfl);exact⟨by simpa using this,hs⟩
theorem Ints.cases{w:World}{v:Value}{l:List Int}(h:Ints w v l):
  (l=[]/\∃a c,v=.slice a 0 c)\/(∃b o c,v=.slice (some ⟨b,o,none⟩) l.length c/\0<l.length/\l.length<=c/\c<=9223372036854775807/\b<w.heap.size/\
   ∀i x,l[i]? =some x->w.cell? ⟨b,o+i,none⟩=some (.int .i64 x)):=by
 rcases Row.cases h with h|⟨b,o,c,hv,h0,h1,h2,hb,hc⟩
 ·exact .inl h
 refine .inr ⟨b,o,c,hv,h0,h1,h2,hb,fun i x hx=>?_⟩;obtain⟨cs,e,-,hj⟩:=hc i x hx;have:=hj 0 (.int .i64 x) (by rw[e];rfl);simpa using this
theorem getElem?_of_lt{α:Type}{l:List α}{k:Nat}(h:k<l.length):∃x,l[k]? =some x/\x∈l:=⟨l[k],List.getElem?_eq_getElem h,List.getElem_mem h⟩
abbrev bY:=@heap_alloc_new
abbrev Yb:=@List.getElem?_eq_some_iff
theorem zh{p:Prop}(h:p):Hid p:=Lib.hid h
theorem CQ{p:Prop}(h:p:=by kernel_rfl):p:=h
theorem CR{p:Prop}(h:p:=by omega):p:=h
theorem CU{p:Prop}(h:p:=by have h9:=bY Wa (.cells #[.int .i64 0,.string ⟨#[]⟩,.int .i64 0,.int .i64 0,.int .i64 0,.string ⟨#[]⟩,.int .i64 0,.int .i64 0,.int .i64 0,.string ⟨#[]⟩,.slice none 0 0,.slice none 0 0,.slice none 0 0,.string ⟨#[]⟩,.int .i64 0,.string ⟨#[]⟩,.slice none 0 0,.string ⟨#[]⟩,.int .i64 0,.int .i64 0,.string ⟨#[]⟩,.string ⟨#[]⟩,.slice none 0 0,.slice none 0 0,.slice none 0 0,.int .i64 0,.int .i64 0,.int .i64 0,.int .i64 0] 37);rw[oE.out] at h9;exact h9):p:=h
theorem CV{p:Prop}(h:p:=by decide+kernel):p:=h
theorem CW{p:Prop}(h:p:=by rw[HA.out];rfl):p:=h
theorem CX{p:Prop}(h:p:=by decide):p:=h
theorem CY{p:Prop}(h:p:=by rw[ByteArray.size_append];omega):p:=h
theorem CZ{p:Prop}(h:p:=by obtain⟨x0,x1,x2,x3,x4,x5,x6,x7,x8,x9,x10,x11,x12,x13,x14,x15,x16,x17,x18,x19,x20,x21,x22,x23,x24,x25,x26,x27,x28⟩:=aP jG.out (aC hW jI.out);go_simp):p:=h
theorem C0{p:Prop}(h:p:=by simp):p:=h
theorem C1{p:Prop}(h:p:=by go_simp<;>omega):p:=h
theorem C2{p:Prop}(h:p:=by unfold aO;omega):p:=h
theorem C3{p:Prop}(h:p:=by have h:=bY (V0.alloc (.cells #[.int .i64 0,.string ⟨#[]⟩,.slice none 0 0,.string ⟨#[]⟩,.int .i64 0,.int .i64 0,.string ⟨#[]⟩,.string ⟨#[]⟩,.slice none 0 0,.slice none 0 0] 34)) (.cells #[.int .i64 0,.string ⟨#[]⟩,.slice none 0 0,.string ⟨#[]⟩,.int .i64 0,.int .i64 0,.string ⟨#[]⟩,.string ⟨#[]⟩,.slice none 0 0,.slice none 0 0] 34);rw[lF] at h;exact h):p:=h
theorem C5{p:Prop}(h:p:=by go_num):p:=h
theorem C6{p:Prop}(h:p:=by rcases lP.out with rfl<;>rfl):p:=h
theorem C7{p:Prop}(h:p:=by show w.heap.size<=w.heap.size+1;omega):p:=h
theorem C8{p:Prop}(h:p:=by show w.heap.size<=fb;omega):p:=h
theorem DA{p:Prop}(h:p:=by first|(rw[H2.out];kernel_rfl)|rw[H2.out]):p:=h
theorem DB{p:Prop}(h:p:=by have x1:=(bx ((hW.block _ (by omega)).trans lN.out) 1 rfl).1;go_simp):p:=h
theorem DC{p:Prop}(h:p:=by simp;omega):p:=h
theorem DD{p:Prop}(h:p:=by rw[mR.out]):p:=h
theorem DE{p:Prop}(h:p:=by have h9:=bU (p:=p) f W (hG.later hb) (h.later hb) hf;rw[kO] at h9;rw[HA.out];exact h9):p:=h
theorem DG{p:Prop}(h:p:=by first|(rw[H2.out];rfl)|rw[H2.out]):p:=h
theorem DI{p:Prop}(h:p:=by rw[nJ.out];simp[Value.oneCell']):p:=h
theorem DK{p:Prop}(h:p:=by simp[Lib.itoa,Lib.decDigits]):p:=h
theorem DL{p:Prop}(h:p:=by rw[HR.out,decide_eq_true (show 0<=ai by omega),decide_eq_true (show ai<=1073741824 by omega)];simp):p:=h
theorem DM{p:Prop}(h:p:=by have x2:=(bx ((hW.block _ (by omega)).trans lN.out) 2 rfl).1;have x3:=(bx ((hW.block _ (by omega)).trans lN.out) 3 rfl).1;have x4:=(bx ((hW.block _ (by omega)).trans lN.out) 4 rfl).1;go_simp):p:=h
theorem DN{p:Prop}(h:p:=by rw[beq_eq_false_iff_ne];omega):p:=h
theorem DO{p:Prop}(h:p:=by unfold maxLen;omega):p:=h
theorem DP{p:Prop}(h:p:=by rw[<-nT.out,<-HO.out,fH];rfl):p:=h
theorem DR{p:Prop}(h:p:=by simp[Value.oneCell']):p:=h
theorem DS{p:Prop}(h:p:=by rw[pR.out];rfl):p:=h
theorem DT{p:Prop}(h:p:=by cases e;omega):p:=h
theorem DU{p:Prop}(h:p:=by rw[kA.out];kernel_rfl):p:=h
theorem DV{p:Prop}(h:p:=by rw[HR.out,List.drop_of_length_le (by omega)];rfl):p:=h
theorem DW{p:Prop}(h:p:=by have x24:=(bx ((hW.block _ (by omega)).trans lN.out) 24 rfl).1;go_simp):p:=h
theorem DX{p:Prop}(h:p:=by have x25:=(bx ((hW.block _ (by omega)).trans lN.out) 25 rfl).1;go_simp):p:=h
theorem DY{p:Prop}(h:p:=by have x26:=(bx ((hW.block _ (by omega)).trans lN.out) 26 rfl).1;go_simp):p:=h
theorem DZ{p:Prop}(h:p:=by rw[HA.out];exact key_any (p:=p) f W (hG.later hb) (h.later hb) hf kO):p:=h
theorem D0{p:Prop}(h:p:=by have:=yB.out;omega):p:=h
theorem D1{p:Prop}(h:p:=by rw[bne_eq_false_iff_eq];exact hA):p:=h
theorem D2{p:Prop}(h:p:=by rw[HC.out,HA.out];rfl):p:=h
theorem D3{p:Prop}(h:p:=by cases h):p:=h
theorem D4{p:Prop}(h:p:=by rfl):p:=h
theorem D5{p:Prop}(h:p:=by simpa using h):p:=h
theorem D6{p:Prop}(h:p:=by rw[itoa_1];decide+kernel):p:=h
theorem D7{p:Prop}(h:p:=by rw[HR.out,yC.out];simp):p:=h
theorem D8{p:Prop}(h:p:=by rw[HE.out];simp<;>(try(intros;omega))):p:=h
theorem D9{p:Prop}(h:p:=by have c2:=cfA (aC hW nP.out) qB.out;have c3:=cfA (aC hW nP.out) tS.out;have c4:=cfA (aC hW nP.out) uT.out;go_simp):p:=h
theorem EA{p:Prop}(h:p:=by have hm:¬((s.size:Int)<min (s.size:Int) 21):=(by omega);have rE:(0:Int)<=min (s.size:Int) 21:=(by omega);go_simp):p:=h
theorem EB{p:Prop}(h:p:=by rw[HR.out];simp):p:=h
theorem EC{p:Prop}(h:p:=by have:=yH.out W hb;rw[if_pos mS.2] at this;exact this):p:=h
theorem ED{p:Prop}(h:p:=by simpa using hy):p:=h
theorem EE{p:Prop}(h:p:=by simpa using mM):p:=h
theorem EF{p:Prop}(h:p:=by rw[nJ.out];rfl):p:=h
theorem EG{p:Prop}(h:p:=by rw[kA.out];rfl):p:=h
theorem EH{p:Prop}(h:p:=by rw[itoa_2];decide+kernel):p:=h
theorem EI{p:Prop}(h:p:=by obtain⟨⟨x0,x1,x2⟩,-⟩:=bx3 (aC hW HX.out);go_simp):p:=h
theorem EJ{p:Prop}(h:p:=by unfold Sz;show nm.size<=_;omega):p:=h
theorem EK{p:Prop}(h:p:=by rw[qJ.out];rcases ho with rfl<;>(apply cU;simp[keyL,gS,kYank,kBuild,bs,ByteArray.data_append])):p:=h
theorem EL{p:Prop}(h:p:=by unfold bcs;rw[List.length_map]):p:=h
theorem EM{p:Prop}(h:p:=by intro e;rw[e] at jM;simp at jM):p:=h
theorem EN{p:Prop}(h:p:=by simp[results,Tryz.results177,go_sem,c0,c1,c2]):p:=h
theorem EO{p:Prop}(h:p:=by simp[results,Tryz.results217,go_sem,c0,c1,c2]):p:=h
theorem EP{p:Prop}(h:p:=by simp only[List.length_append,List.length_replicate,List.length_cons,List.length_nil];omega):p:=h
theorem EQ{p:Prop}(h:p:=by simp[results,Tryz.results82,go_sem,c0,c1,c2]):p:=h
theorem ER{p:Prop}(h:p:=by rw[HE.out]):p:=h
theorem ES{p:Prop}(h:p:=by rw[HF.out]):p:=h
theorem ET{p:Prop}(h:p:=by have c28:=cfA (aC hW jI.out) uU.out;go_simp):p:=h
theorem EU{p:Prop}(h:p:=by have c0:=cfA (aC hW jI.out) nK.out;go_simp):p:=h
theorem EV{p:Prop}(h:p:=by have c1:=cfA (aC hW nP.out) pP.out;go_simp):p:=h
theorem EW{p:Prop}(h:p:=by rw[Array.length_toList];rfl):p:=h
theorem EX{p:Prop}(h:p:=by rw[List.length_take];omega):p:=h
theorem EY{p:Prop}(h:p:=by simp at h):p:=h
theorem EZ{p:Prop}(h:p:=by have hx:=aD hW x0;go_simp):p:=h
theorem E0{p:Prop}(h:p:=by rw[HA.out];simp[fcC,pZ,Value.oneCell']):p:=h
theorem E1{p:Prop}(h:p:=by unfold bL at h;simp only[Bool.and_eq_true,decide_eq_true_eq] at h;exact h.1.2):p:=h
theorem E3{p:Prop}(h:p:=by have q0:=hW.cell vK x0;have q1:=hW.cell vK x1;have q2:=hW.cell vK x2;go_simp):p:=h
theorem E4{p:Prop}(h:p:=by rw[nJ.out]):p:=h
theorem E5{p:Prop}(h:p:=by have hb:b=p.pb:=hb;have:=hW.blt;omega):p:=h
theorem E6{p:Prop}(h:p:=by simpa using hi):p:=h
theorem E7{p:Prop}(h:p:=by rw[itoa_3];decide+kernel):p:=h
theorem E8{p:Prop}(h:p:=by rw[itoa_0];decide+kernel):p:=h
theorem E9{p:Prop}(h:p:=by rw[HR.out,yE.out,sJ.out,sV.out];simp):p:=h
theorem FA{p:Prop}(h:p:=by rw[HC.out,xF.out];simp):p:=h
theorem FB{p:Prop}(h:p:=by unfold Sz;decide):p:=h
theorem FC{p:Prop}(h:p:=by first|rfl|go_num):p:=h
theorem FF{p:Prop}(h:p:=by unfold cmpI;by_cases h:x<y<;>by_cases h2:y<x<;>simp[h,h2]<;>omega):p:=h
theorem FG{p:Prop}(h:p:=by unfold Addr.add;split<;>simp_all):p:=h
theorem FH{p:Prop}(h:p:=by rw[HR.out,Hm1.out,Hm2.out];simp):p:=h
theorem FJ{p:Prop}(h:p:=by rw[HA.out];exact bU f W (hG.later hb) (hf.later hb) (by omega)):p:=h
theorem FK{p:Prop}(h:p:=by rw[Bool.eq_iff_iff];simp;omega):p:=h
theorem FL{p:Prop}(h:p:=by simpa using fun e=>h.gq e.symm):p:=h
theorem FM{p:Prop}(h:p:=by simpa using hj):p:=h
end Go.Proofs.YtmpopphjaggeoaaGreatDoor
namespace Go.Proofs.YtmpopphjaggeoaaGreatDoor
open Go.RowKit Go.Maps
structure KeyC (P:Program) (t:TypeId) (κ:Type) where
 lit:κ->Lit
 val:κ->Value
 ok:κ->Prop
 inj:∀a b,lit a=lit b->a=b
 key:∀a,ok a->keyOf P t (val a)=some (lit a)
 keyed:Keyed P t
 isKey:∀a,WideAt.IsKeyLit (lit a)
structure ValC (P:Program) (t:TypeId) (ν:Type) where
 lit:ν->Lit
 val:ν->Value
 ok:ν->Prop
 zero:ν
 zok:ok zero
 rd:∀x,ok x->plainElem (H:=Unit) P t (val x)=some (.lit (lit x),[])
 inv:∀v x ps,plainElem (H:=Unit) P t v=some (.lit (lit x),ps)->v=val x
 zrun:∀w,(zeroValue t).run P w=.ok (val zero) w
theorem cU{s t:bA}(h:s.data.toList=t.data.toList):s=t:=by
 cases s;cases t;congr;exact Array.toList_inj.1 h
section
variable {P:Program} {t:TypeId}
def strKey(h:P.underlying t=some .string):KeyC P t bA where
 lit s:=.string s.data.toList
 val:=.string
 ok s:=s.size<=maxLen
 inj a b h:=cU (by simpa using h)
 key a ha:=Go.WideMaps.keyOf_string_mk h ha
 keyed:=string_keyed h
 isKey _:=trivial
def boolVal(h:P.underlying t=some .bool)(hz:∀w,(zeroValue t).run P w=.ok (.bool false) w):ValC P t Bool where
 lit:=.bool
 val:=.bool
 ok _:=True
 zero:=false
 zok:=trivial
 rd x _:=plainElem_bool h x
 inv v x ps hv:=by
  unfold plainElem at hv;rw[h] at hv;cases v<;>simp at hv;rw[hv.1]
 zrun:=hz
end
section
variable {P:Program} {kt et t:TypeId} {κ ν:Type} {K:KeyC P kt κ} {V:ValC P et ν} {w:World} {b n:Nat} {m:κ->Option ν}
def cW(K:KeyC P kt κ)(V:ValC P et ν)(w:World)(b n:Nat)(m:κ->Option ν):Prop:=
 ∃D:DataW Unit,w.ownsMap P kt (plainElem P et) b n D/\∀x z,D.atKey (K.lit x) z=(match m x with|some v=>.lit (V.lit v)|none=>z)
theorem cW.of_block{w':World}(h:cW K V w b n m)(hb:w'.heap[b]? =w.heap[b]?):cW K V w' b n m:=by
 obtain⟨D,⟨es,clock,h1,r⟩,h2⟩:=h;exact⟨D,⟨es,clock,hb.trans h1,r⟩,h2⟩
theorem cW.lt(h:cW K V w b n m):b<w.heap.size:=by obtain⟨D,h1,-⟩:=h;exact h1.lt
theorem cW.later{w':World}(h:cW K V w b n m)(hb:Below w.heap.size w w'):cW K V w' b n m:=h.of_block (hb.block b h.lt)
theorem cW.mono{n':Nat}(h:cW K V w b n m)(hn:n<=n'):cW K V w b n' m:=by obtain⟨D,h1,h2⟩:=h;exact⟨D,h1.mono hn,h2⟩
theorem cW.alloc(h:cW K V w b n m)(o:Obj):cW K V (w.alloc o) b n m:=h.of_block (Below.heap_alloc _ _ _ h.lt)
theorem cW.drew(h:cW K V w b n m):cW K V w.drew b n m:=h
theorem cW.setCell(h:cW K V w b n m){a:Addr}(ha:b≠a.block)(u:Value):cW K V (w.setCell a u) b n m:=h.of_block (Below.heap_setCell _ _ _ _ ha)
theorem cW.grown{w':World}{row:Option Nat}(h:cW K V w b n m)(hg:w.grownBy w' row)(kQ:some b≠row):cW K V w' b n m:=
 h.of_block (hg.block b h.lt kQ)
theorem cW.ext{m':κ->Option ν}(h:cW K V w b n m)(e:∀x,m x=m' x):cW K V w b n m':=by
 have:m=m':=funext e;exact this▸h
end
end Go.Proofs.YtmpopphjaggeoaaGreatDoor
