/- Texts of this seat, joined. -/
import Derived.Test.YtiionicikdnnpaaGreatDoorZb
import Derived.Lib.ItoaNum
import Derived.Lib.Split
import Derived.Lib.Join
set_option linter.unusedVariables false
set_option linter.unusedSimpArgs false
namespace Go.Proofs.YtiionicikdnnpaaGreatDoor
def oW(c:UInt8):Bool:=decide (33<=(c.toNat:Int))&&decide ((c.toNat:Int)<=126)
def isName(s:bA):Bool:=s.data.toList.all oW&& !s.toList.isEmpty&&decide (s.size<=20)
structure Stp where
 kind:Int
 src:List bA
 out:bA
 sorted:Bool
structure Fil where
 name:bA
 text:bA
def lH(s:Stp):Bool:=
 if(!isName s.out||s.src.any fun x=> !isName x) then false
 else if s.kind=2 then decide (s.src.length<=60)
 else if s.kind=1 then decide (s.src.length<=60)&& !s.sorted
 else if s.kind=0\/s.kind=3\/s.kind=4\/s.kind=5 then decide (s.src.length=1)&& !s.sorted
 else false
def stepPure(s:Stp):Bool:=lH s&&decide (s.kind≠4)&&(decide (s.kind≠2)||s.sorted)
structure Tok where
 kind:Int
 text:bA
 n:Int
 pos:Int
def cI(c:UInt8):Bool:=decide (c.toNat=32)||decide (c.toNat=9)||decide (c.toNat=10)
def fT(c:UInt8):Bool:=decide (97<=c.toNat)&&decide (c.toNat<=122)
def cF(c:UInt8):Bool:=decide (48<=c.toNat)&&decide (c.toNat<=57)
def jL(c:UInt8):Bool:=fT c||cF c
def cR(p:UInt8->Bool)(l:List UInt8):Nat:=(l.takeWhile p).length
def iJ(s:bA)(n:Nat):bA:=s.extract 0 n
def eZ(s:bA)(n:Nat):bA:=s.extract n s.size
def eT(s:bA):Bool:=match s.data.toList with
 |[]=>false
 |c::_=>fT c&&decide (s.size<=20)&&s.data.toList.all jL
def iL(l:List UInt8):Nat:=l.foldl (fun n c=>10*n+(c.toNat-48)) 0
def cO(s:bA):Option Nat:=match s.data.toList with
 |[]=>none
 |c::_=>if s.data.toList.all cF&& !(decide (c.toNat=48)&&decide (s.size≠1))&&decide (s.size<=13)&&decide (iL s.data.toList<=1099511627776) then some (iL s.data.toList) else none
def dU:List bA:=[⟨#[61,61]⟩,⟨#[59]⟩,⟨#[44]⟩,⟨#[61]⟩,⟨#[60]⟩,⟨#[43]⟩,⟨#[45]⟩,⟨#[42]⟩,⟨#[46]⟩,⟨#[33]⟩,⟨#[40]⟩,⟨#[41]⟩,⟨#[123]⟩,⟨#[125]⟩]
def kB(s x:bA):Bool:=x.data.toList.isPrefixOf s.data.toList
def eR(s:bA):Except Int (Int×bA×Int):=match s.data.toList with
 |[]=>.error 10
 |c::_=>
  if fT c then(if eT (iJ s (cR jL s.data.toList)) then .ok (0,iJ s (cR jL s.data.toList),0) else .error 12)
  else if cF c then(match cO (iJ s (cR cF s.data.toList)) with
   |some n=>.ok (1,iJ s (cR cF s.data.toList),n)
   |none=>.error 3)
  else match dU.find? (kB s) with
   |some x=>.ok (2,x,0)
   |none=>.error 10
def eK(s:bA):Nat->Nat->List Tok->Except (Int×Int) (List Tok)
 |0,_,out=>.ok out
 |f+1,i,out=>
  if i+cR cI (eZ s i).data.toList=s.size then .ok (out++[⟨3,⟨#[]⟩,0,s.size⟩])
  else match eR (eZ s (i+cR cI (eZ s i).data.toList)) with
   | .error e=>.error ((i+cR cI (eZ s i).data.toList:Nat),e)
   | .ok (k,t,n)=>eK s f (i+cR cI (eZ s i).data.toList+t.size) (out++[⟨k,t,n,(i+cR cI (eZ s i).data.toList:Nat)⟩])
def lX(s:bA):Except (Int×Int) (List Tok):=if 8000<s.size then .error (0,6) else eK s (s.size+1) 0 []
inductive Xp where
 |mk (op n:Int) (s m:bA) (names:List bA) (args:List Xp)
inductive Ty where
 |mk (kind:Int) (fields:List (bA×Ty))
abbrev Fld:=bA×Ty
structure Fnc where
 name:bA
 pub:Bool
 params:List Fld
 result:Ty
 effects:Int
 body:Xp
structure Mdl where
 name:bA
 uses:List bA
 vars:List Fld
 init:List Xp
 funcs:List Fnc
 moves:Bool
 old:List Fld
 forward:List Xp
 back:List Xp
abbrev bs(l:List UInt8):bA:=⟨l.toArray⟩
abbrev kT:bA:=bs [32,97,110,100,32,98,97,99,107,32,98,111,111,108,32,99,108,111,99,107,32,101,108,115,101,32,102,97,108,115,101,32,102,105,108,101,115,32,102,110,32,102,111,114,119,97,114,100,32,103,101,116,32,105,102,32,105,110,32,105,110,116,32,108,101,116,32,109,111,100,117,108,101,32,109,111,118,101,32,110,101,116,32,110,111,116,32,111,114,32,112,117,98,32,115,101,99,114,101,116,115,32,115,101,116,32,116,104,101,110,32,116,114,117,101,32,117,115,101,32,118,97,114,32]
def aM(s:bA):Bool:=eT s&& !Lib.contains kT.data.toList ((bs [32]++s)++bs [32]).data.toList
def bN(s:bA):Int:=if s=bs [102,105,108,101,115] then 1 else if s=bs [110,101,116] then 2 else if s=bs [99,108,111,99,107] then 4 else if s=bs [115,101,99,114,101,116,115] then 8 else 0
abbrev PR(α:Type):=Except (Int×Int) (α×Nat)
def aI(l:List Tok)(i:Nat):Tok:=l.getD i ⟨3,⟨#[]⟩,0,0⟩
def gO{α:Type}(l:List Tok)(i:Nat)(e:Int):PR α:=.error ((aI l i).pos,e)
def isP(l:List Tok)(i:Nat)(s:bA):Bool:=decide ((aI l i).kind≠3)&&decide ((aI l i).text=s)
def cG(l:List Tok)(i:Nat):Bool:=decide ((aI l i).kind=0)&&aM (aI l i).text
def dD(l:List Tok)(i:Nat)(s:bA):PR Unit:=if isP l i s then .ok ((),i+1) else gO l i 11
def kL(l:List Tok)(i:Nat)(fits:Bool)(s:bA):PR Unit:=if isP l i s then(if fits then .ok ((),i+1) else gO l i 6) else gO l i 11
def fC(l:List Tok)(i:Nat):PR bA:=if cG l i then .ok ((aI l i).text,i+1) else gO l i 11
def fO(l:List Tok)(i:Nat)(known:bA->Bool):PR bA:=if cG l i then(if known (aI l i).text then gO l i 5 else .ok ((aI l i).text,i+1)) else gO l i 11
def gtB(a b:bA):Bool:= !(Op.bytesLess a.toList b.toList||a.toList==b.toList)
def eC(l:List Tok)(i:Nat)(than:bA)(any:Bool):PR bA:=
 if cG l i then(if any&&decide ((aI l i).text=than) then gO l i 5 else if any&& !gtB (aI l i).text than then gO l i 12 else .ok ((aI l i).text,i+1)) else gO l i 11
def eH(l:List Tok)(i:Nat)(have_ most:Nat):PR Unit:=if have_<most then .ok ((),i) else gO l i 6
abbrev kIf:bA:=bs [105,102]
abbrev kU:bA:=bs [116,104,101,110]
abbrev kV:bA:=bs [101,108,115,101]
abbrev lJ:bA:=bs [108,101,116]
abbrev kEq:bA:=bs [61]
abbrev kIn:bA:=bs [105,110]
abbrev mL:bA:=bs [115,101,116]
abbrev mD:bA:=bs [110,111,116]
abbrev cU:bA:=bs [116,114,117,101]
abbrev bU:bA:=bs [102,97,108,115,101]
abbrev gM:bA:=bs [103,101,116]
abbrev aS:bA:=bs [40]
abbrev bQ:bA:=bs [41]
abbrev bH:bA:=bs [123]
abbrev cL:bA:=bs [125]
abbrev kX:bA:=bs [46]
abbrev aY:bA:=bs [44]
abbrev dB:bA:=bs [59]
abbrev kOr:bA:=bs [111,114]
abbrev kAnd:bA:=bs [97,110,100]
abbrev kEqEq:bA:=bs [61,61]
abbrev kLess:bA:=bs [60]
abbrev kPlus:bA:=bs [43]
abbrev kMinus:bA:=bs [45]
abbrev kStar:bA:=bs [42]
abbrev kIntW:bA:=bs [105,110,116]
abbrev kBool:bA:=bs [98,111,111,108]
abbrev bZ:bA:=bs [109,111,100,117,108,101]
abbrev pC:bA:=bs [117,115,101]
abbrev nJ:bA:=bs [118,97,114]
abbrev kF:bA:=bs [112,117,98]
abbrev kFn:bA:=bs [102,110]
abbrev kK:bA:=bs [109,111,118,101]
abbrev iB:bA:=bs [102,111,114,119,97,114,100]
abbrev nT:bA:=bs [98,97,99,107]
abbrev hM:bA:=bs [33]
abbrev nK:bA:=bs [102,105,108,101,115]
abbrev kNet:bA:=bs [110,101,116]
abbrev nL:bA:=bs [99,108,111,99,107]
abbrev jR:bA:=bs [115,101,99,114,101,116,115]
abbrev noB:bA:=⟨#[]⟩
def PR.bnd{α β:Type}(m:PR α)(k:α->Nat->PR β):PR β:=match m with
 | .error x=>.error x
 | .ok (a,j)=>k a j
def eJ:List (bA×Int×Nat):=[(kOr,9,1),(kAnd,8,2),(kEqEq,7,4),(kLess,6,4),(kPlus,3,5),(kMinus,4,5),(kStar,5,6)]
def jF(l:List Tok)(i:Nat):Option (bA×Int×Nat):=eJ.find? fun o=>isP l i o.1
mutual
def bE:Xp->Nat
 | .mk _ _ _ _ _ args=>dP args+1
def dP:List Xp->Nat
 |[]=>0
 |x::r=>max (bE x) (dP r)
end
mutual
def aZ:Ty->Nat
 | .mk _ fields=>cH fields+1
def cH:List (bA×Ty)->Nat
 |[]=>0
 |(_,t)::r=>max (aZ t) (cH r)
end
abbrev RecP:=Nat->Nat->PR Xp
section
variable (l:List Tok) (rec:RecP)
def iK:Nat->Xp->Nat->PR Xp
 |0,e,i=>.ok (e,i)
 |f+1,e,i=>if isP l i kX then(fC l (i+1)).bnd fun s j=>iK f (.mk 14 0 s noB [] [e]) j else .ok (e,i)
def kR(form:Nat):Nat->Nat->Xp->Nat->PR Xp
 |0,_,e,i=>.ok (e,i)
 |f+1,own,e,i=>match jF l i with
  |none=>.ok (e,i)
  |some (_,op,fm)=>if fm<form\/own<fm\/(own=4/\fm=4) then .ok (e,i)
   else(rec (fm+1) (i+1)).bnd fun b j=>kR form f fm (.mk op 0 noB noB [] [e,b]) j
def eS(i:Nat):Bool:=isP l i kX&&decide (i+2<l.length)&&decide ((aI l (i+1)).kind=0)&&aM (aI l (i+1)).text&&decide ((aI l (i+2)).kind=2)&&decide ((aI l (i+2)).text=aS)
def dX(i:Nat):Bool:=
 if(aI l i).kind=1 then true
 else if(aI l i).kind=2 then decide ((aI l i).text=aS)||decide ((aI l i).text=bH)
 else if(aI l i).kind=3 then false
 else([kIf,lJ,mL,mD,cU,bU,gM].any fun s=>decide ((aI l i).text=s))||decide (bN (aI l i).text≠0)||aM (aI l i).text
def bF:Nat->List Xp->Nat->PR (List Xp)
 |0,out,i=>.ok (out,i)
 |f+1,out,i=>(if dX l i then eH l i out.length 6 else .ok ((),i)).bnd fun _ _=>(rec 0 i).bnd fun e j=>
  if isP l j aY then bF f (out++[e]) (j+1) else(dD l j bQ).bnd fun _ k=>.ok (out++[e],k)
def eO(i:Nat):PR (List Xp):=(dD l i aS).bnd fun _ j=>if isP l j bQ then .ok ([],j+1) else bF l rec (l.length+1) [] j
def bV:Nat->List bA->List Xp->bA->Nat->PR Xp
 |0,names,args,_,i=>.ok (.mk 13 0 noB noB names args,i)
 |f+1,names,args,last,i=>(if cG l i then eH l i names.length 8 else .ok ((),i)).bnd fun _ _=>(eC l i last (decide (0<names.length))).bnd fun s j=>(dD l j kEq).bnd fun _ j2=>(rec 0 j2).bnd fun e j3=>
  if isP l j3 aY then bV f (names++[s]) (args++[e]) s (j3+1) else(dD l j3 cL).bnd fun _ k=>.ok (.mk 13 0 noB noB (names++[s]) (args++[e]),k)
def iP(i:Nat):PR Xp:=if isP l i cL then .ok (.mk 13 0 noB noB [] [],i+1) else bV l rec (l.length+1) [] [] noB i
def mH(s:bA)(j:Nat):PR Xp:=
 if isP l j aS then(eO l rec j).bnd fun as k=>.ok (.mk 15 0 s noB [] as,k)
 else if eS l j then(fC l (j+1)).bnd fun f k=>(eO l rec k).bnd fun as k2=>.ok (.mk 15 0 f s [] as,k2)
 else .ok (.mk 2 0 s noB [] [],j)
def kQ(i:Nat):PR Xp:=(rec 0 i).bnd fun e j=>(dD l j bQ).bnd fun _ k=>.ok (e,k)
def aP(i:Nat):PR Xp:=
 if(aI l i).kind=1 then .ok (.mk 0 (aI l i).n noB noB [] [],i+1)
 else if isP l i cU then .ok (.mk 1 1 noB noB [] [],i+1)
 else if isP l i bU then .ok (.mk 1 0 noB noB [] [],i+1)
 else if isP l i gM then(fC l (i+1)).bnd fun s j=>.ok (.mk 17 0 s noB [] [],j)
 else if(aI l i).kind=0/\bN (aI l i).text≠0 then(dD l (i+1) aS).bnd fun _ j=>(kQ l rec j).bnd fun e k=>.ok (.mk 16 (bN (aI l i).text) noB noB [] [e],k)
 else if isP l i bH then iP l rec (i+1)
 else if isP l i aS then kQ l rec (i+1)
 else(fC l i).bnd fun s j=>mH l rec s j
def bS(form i:Nat):PR (Xp×Nat):=
 if form=0/\isP l i kIf=true then(rec 0 (i+1)).bnd fun a j=>(dD l j kU).bnd fun _ j2=>(rec 0 j2).bnd fun b j3=>(dD l j3 kV).bnd fun _ j4=>(rec 0 j4).bnd fun c j5=>.ok ((.mk 11 0 noB noB [] [a,b,c],0),j5)
 else if form=0/\isP l i lJ=true then(fC l (i+1)).bnd fun s j=>(dD l j kEq).bnd fun _ j2=>(rec 0 j2).bnd fun a j3=>(dD l j3 kIn).bnd fun _ j4=>(rec 0 j4).bnd fun b j5=>.ok ((.mk 12 0 s noB [] [a,b],0),j5)
 else if form=0/\isP l i mL=true then(fC l (i+1)).bnd fun s j=>(rec 0 j).bnd fun a j2=>.ok ((.mk 18 0 s noB [] [a],0),j2)
 else if form<=3/\isP l i mD=true then(rec 3 (i+1)).bnd fun a j=>.ok ((.mk 10 0 noB noB [] [a],3),j)
 else(aP l rec i).bnd fun e j=>.ok ((e,8),j)
end
def bL(l:List Tok):Nat->RecP
 |0,_,i=>gO l i 11
 |f+1,form,i=>(bS l (bL l f) form i).bnd fun r j=>
  (if 7<=r.2 then iK l (l.length+1) r.1 j else .ok (r.1,j)).bnd fun e k=>kR l (bL l f) form (l.length+1) r.2 e k
def jY(l:List Tok)(form i:Nat):PR Xp:=bL l (l.length+1) form i
section
variable (l:List Tok)
def lE(i:Nat)(t:Ty)(e:bA):PR Bool:=if isP l i aY then(kL l i (decide (aZ t<=4)) aY).bnd fun _ j=>.ok (false,j) else(kL l i (decide (aZ t<=4)) e).bnd fun _ j=>.ok (true,j)
def dE(rec:Nat->PR Ty):Nat->List Fld->Nat->PR Ty
 |0,fs,i=>.ok (.mk 2 fs,i)
 |f+1,fs,i=>(if cG l i then eH l i fs.length 8 else .ok ((),i)).bnd fun _ _=>(eC l i ((fs.getLast?.map (·.1)).getD noB) (decide (0<fs.length))).bnd fun s j=>(rec j).bnd fun t j2=>(lE l j2 t cL).bnd fun q j3=>
  if q then .ok (.mk 2 (fs++[(s,t)]),j3) else dE rec f (fs++[(s,t)]) j3
def eF:Nat->Nat->PR Ty
 |0,i=>gO l i 11
 |f+1,i=>if isP l i kIntW then .ok (.mk 0 [],i+1) else if isP l i kBool then .ok (.mk 1 [],i+1)
  else(dD l i bH).bnd fun _ j=>if isP l j cL then .ok (.mk 2 [],j+1) else dE l (eF f) (l.length+1) [] j
def iW(i:Nat):PR Ty:=eF l (l.length+1) i
def cK(most:Nat):Nat->List Fld->Nat->PR (List Fld)
 |0,fs,i=>.ok (fs,i)
 |f+1,fs,i=>(if cG l i then eH l i fs.length most else .ok ((),i)).bnd fun _ _=>(fO l i (fun s=>fs.any fun x=>decide (x.1=s))).bnd fun s j=>(iW l j).bnd fun t j2=>(lE l j2 t bQ).bnd fun q j3=>
  if q then .ok (fs++[(s,t)],j3) else cK most f (fs++[(s,t)]) j3
def gK(most i:Nat):PR (List Fld):=(dD l i aS).bnd fun _ j=>if isP l j bQ then .ok ([],j+1) else cK l most (l.length+1) [] j
def iM(i:Nat)(e:bA):PR Xp:=(jY l 0 i).bnd fun x j=>(kL l j (decide (bE x<=12)) e).bnd fun _ k=>.ok (x,k)
def dR(e:bA):Nat->List Xp->Nat->PR (List Xp)
 |0,out,i=>(iM l i e).bnd fun x j=>.ok (out++[x],j)
 |n+1,out,i=>(iM l i aY).bnd fun x j=>dR e n (out++[x]) j
def fL(n i:Nat)(e:bA):PR (List Xp):=match n with
 |0=>(dD l i e).bnd fun _ j=>.ok ([],j)
 |n+1=>dR l e n [] i
def dF:List (bA×Int)->Int->Nat->Int×Nat
 |[],n,i=>(n,i)
 |(s,b)::r,n,i=>if isP l i s then dF r (n+b) (i+1) else dF r n i
def cD:List (bA×Int):=[(nK,1),(kNet,2),(nL,4),(jR,8)]
def lC(i:Nat)(fits:Bool):PR (Int×Bool):=if isP l i hM then(kL l i fits hM).bnd fun _ j=>if(dF l cD 0 j).1≠0 then .ok (((dF l cD 0 j).1,true),(dF l cD 0 j).2) else gO l (dF l cD 0 j).2 11 else .ok ((0,fits),i)
def gW(i:Nat)(known:bA->Bool):PR Fnc:=
 (dD l (if isP l i kF then i+1 else i) kFn).bnd fun _ j=>(fO l j known).bnd fun name j2=>(gK l 6 j2).bnd fun ps j3=>(iW l j3).bnd fun t j4=>(lC l j4 (decide (aZ t<=4))).bnd fun ef j5=>
  (kL l j5 ef.2 kEq).bnd fun _ j6=>(iM l j6 dB).bnd fun e j7=>.ok (⟨name,isP l i kF,ps,t,ef.1,e⟩,j7)
def eM:Nat->List bA->Nat->PR (List bA)
 |0,out,i=>.ok (out,i)
 |f+1,out,i=>if isP l i pC then(eH l i out.length 12).bnd fun _ _=>(fO l (i+1) (fun s=>out.any fun x=>decide (x=s))).bnd fun s j=>(dD l j dB).bnd fun _ k=>eM f (out++[s]) k else .ok (out,i)
def eV:Nat->List Fld->List Xp->Nat->PR (List Fld×List Xp)
 |0,vs,es,i=>.ok ((vs,es),i)
 |f+1,vs,es,i=>if isP l i nJ then(eH l i vs.length 8).bnd fun _ _=>(fO l (i+1) (fun s=>vs.any fun x=>decide (x.1=s))).bnd fun s j=>(iW l j).bnd fun t j2=>(kL l j2 (decide (aZ t<=4)) kEq).bnd fun _ j3=>(iM l j3 dB).bnd fun e k=>eV f (vs++[(s,t)]) (es++[e]) k else .ok ((vs,es),i)
def dQ:Nat->List Fnc->Nat->PR (List Fnc)
 |0,fs,i=>.ok (fs,i)
 |f+1,fs,i=>if isP l i kF||isP l i kFn then(eH l i fs.length 30).bnd fun _ _=>(gW l i (fun s=>fs.any fun x=>decide (x.name=s))).bnd fun x k=>dQ f (fs++[x]) k else .ok (fs,i)
def oY(n i:Nat):PR (Bool×List Fld×List Xp×List Xp):=if isP l i kK then(gK l 8 (i+1)).bnd fun old j=>(dD l j iB).bnd fun _ j2=>(fL l n j2 nT).bnd fun fw j3=>(fL l old.length j3 dB).bnd fun bk k=>.ok ((true,old,fw,bk),k) else .ok ((false,[],[],[]),i)
def fD:PR Mdl:=(dD l 0 bZ).bnd fun _ i=>(fC l i).bnd fun name i2=>(dD l i2 dB).bnd fun _ i3=>(eM l (l.length+1) [] i3).bnd fun us i4=>(eV l (l.length+1) [] [] i4).bnd fun ve i5=>
 (dQ l (l.length+1) [] i5).bnd fun fs i6=>(oY l ve.1.length i6).bnd fun mv i7=>if(aI l i7).kind=3 then .ok (⟨name,us,ve.1,ve.2,fs,mv.1,mv.2.1,mv.2.2.1,mv.2.2.2⟩,i7) else gO l i7 11
end
def eI(s:bA):Except (Int×Int) Mdl:=match lX s with
 | .error e=>.error e
 | .ok l=>match fD l with
  | .error e=>.error e
  | .ok (m,_)=>.ok m
end Go.Proofs.YtiionicikdnnpaaGreatDoor
namespace Go.Proofs.YtiionicikdnnpaaGreatDoor
def eQ(p:Ty->Bool):Option bA->List Fld->Bool
 |_,[]=>true
 |before,(n,t)::r=>aM n&&(match before with|none=>true|some b=>gtB n b)&&p t&&eQ p (some n) r
def aR:Nat->Ty->Bool
 |0,_=>false
 |d+1,.mk k fs=>decide (0<=k)&&decide (k<3)&&decide (fs.length<=8)&&(decide (k=2)||decide (fs.length=0))&&eQ (aR d) none fs
def fK:Xp->(Int×bA×bA×List bA)×Int
 | .mk op n s m names _=>
  if op=0\/op=1 then((n,noB,noB,[]),0)
  else if op=2\/op=17 then((0,s,noB,[]),0)
  else if op=18\/op=14 then((0,s,noB,[]),1)
  else if op=16 then((n,noB,noB,[]),1)
  else if op=10 then((0,noB,noB,[]),1)
  else if op=12 then((0,s,noB,[]),2)
  else if op=11 then((0,noB,noB,[]),3)
  else if op=13 then((0,noB,noB,names),names.length)
  else if op=15 then((0,s,m,[]),-1)
  else((0,noB,noB,[]),2)
def dJ:Option bA->List bA->Bool
 |_,[]=>true
 |before,n::r=>aM n&&(match before with|none=>true|some b=>gtB n b)&&dJ (some n) r
def gE:Xp->Bool
 | .mk op n s m names args=>
  if op=0 then decide (0<=n)&&decide (n<=1099511627776)
  else if op=1 then decide (n=0)||decide (n=1)
  else if op=16 then decide (n=1)||decide (n=2)||decide (n=4)||decide (n=8)
  else if op=2\/op=17\/op=18\/op=14\/op=12 then aM s
  else if op=15 then aM s&&(decide (m=noB)||aM m)&&decide (args.length<=6)
  else if op=13 then dJ none names&&decide (names.length<=8)
  else true
def aJ:Nat->Xp->Bool
 |0,_=>false
 |d+1,.mk op n s m names args=>
  decide (0<=op)&&decide (op<19)&&
  (decide ((fK (.mk op n s m names args)).2<0)||decide ((fK (.mk op n s m names args)).2=args.length))&&
  decide ((fK (.mk op n s m names args)).1.1=n)&&decide ((fK (.mk op n s m names args)).1.2.1=s)&&decide ((fK (.mk op n s m names args)).1.2.2.1=m)&&
  decide ((fK (.mk op n s m names args)).1.2.2.2.length=names.length)&&gE (.mk op n s m names args)&&args.all (aJ d)
def bB:List Fld->List bA->Bool
 |[],_=>true
 |(n,t)::r,known=>if(known.any fun x=>decide (x=n))|| !aM n|| !aR 4 t then false else bB r (n::known)
def bM(l:List Fld)(most:Nat):Bool:=bB l []&&decide (l.length<=most)
def cB(l:List Xp)(n:Nat):Bool:=l.all (aJ 12)&&decide (l.length=n)
def cW:List bA->List bA->Bool
 |[],_=>true
 |n::r,known=>if(known.any fun x=>decide (x=n))|| !aM n then false else cW r (n::known)
def effOk(e:Int):Bool:=decide (Go.bits .andNot .i64 e 15=0)
def eY(f:Fnc):Bool:=bM f.params 6&&aR 4 f.result&&aJ 12 f.body&&effOk f.effects
def bK:List Fnc->List bA->Bool
 |[],_=>true
 |f::r,known=>if(known.any fun x=>decide (x=f.name))|| !aM f.name|| !eY f then false else bK r (f.name::known)
def eX(m:Mdl):Bool:=
 cW m.uses []&&bK m.funcs []&&aM m.name&&decide (m.uses.length<=12)&&decide (m.funcs.length<=30)&&bM m.vars 8&&cB m.init m.vars.length&&
 (m.moves||decide (m.old.length=0))&&bM m.old 8&&cB m.forward (if m.moves then m.vars.length else 0)&&cB m.back m.old.length
structure Ins where
 op:Int
 a:Int
 s:bA
 m:bA
 names:List bA
structure Cod where
 name:bA
 params:Nat
 locals:Nat
 code:List Ins
structure Cmp where
 code:List Ins
 locals:Nat
def Cmp.put(c:Cmp)(i:Ins):Cmp:=⟨c.code++[i],c.locals⟩
def Cmp.fix(c:Cmp)(k:Nat):Cmp:=⟨c.code.modify k (fun i=>{i with a:=c.code.length}),c.locals⟩
def lastIdx(names:List bA)(s:bA):Int:=match names with
 |[]=> -1
 |x::r=>if 0<=lastIdx r s then lastIdx r s+1 else if x=s then 0 else -1
def varIdx(vars:List bA)(s:bA):Int:=match vars.findIdx? (fun x=>decide (x=s)) with
 |some k=>k
 |none=> -1
def ins(op a:Int):Ins:=⟨op,a,noB,noB,[]⟩
def plainX(vars:List bA):Xp->Ins
 | .mk op n s m names args=>
  if op=3 then ins 4 0 else if op=4 then ins 5 0 else if op=5 then ins 6 0 else if op=6 then ins 7 0 else if op=7 then ins 8 0 else if op=10 then ins 9 0
  else if op=13 then⟨12,0,noB,noB,names⟩
  else if op=14 then⟨13,0,s,noB,[]⟩
  else if op=15 then⟨14,args.length,s,m,[]⟩
  else if op=16 then ins 15 n
  else ins 17 (varIdx vars s)
def choiceC(yes no:Cmp->Cmp)(c:Cmp):Cmp:=
 let c2:=yes (c.put (ins 11 0));let c3:=(c2.put (ins 10 0)).fix c.code.length
 (no c3).fix c2.code.length
def compX(vars:List bA):Nat->List bA->Xp->Cmp->Cmp
 |0,_,_,c=>c
 |d+1,names,.mk op n s m ns args,c=>
  if op=0 then c.put (ins 0 n)
  else if op=1 then c.put (ins 1 n)
  else if op=2 then c.put (ins 2 (lastIdx names s))
  else if op=17 then c.put (ins 16 (varIdx vars s))
  else if op=8 then match args with
   |[x,y]=>choiceC (compX vars d names y) (fun c=>c.put (ins 1 0)) (compX vars d names x c)
   |_=>c
  else if op=9 then match args with
   |[x,y]=>choiceC (fun c=>c.put (ins 1 1)) (compX vars d names y) (compX vars d names x c)
   |_=>c
  else if op=11 then match args with
   |[x,y,z]=>choiceC (compX vars d names y) (compX vars d names z) (compX vars d names x c)
   |_=>c
  else if op=12 then match args with
   |[x,y]=>
    let c1:=(compX vars d names x c).put (ins 3 names.length)
    compX vars d (names++[s]) y ⟨c1.code,max c1.locals (names.length+1)⟩
   |_=>c
  else(args.foldl (fun c x=>compX vars d names x c) c).put (plainX vars (.mk op n s m ns args))
def compF(vars:List bA)(f:Fnc):Cod:=
 let c:=(compX vars 12 (f.params.map (·.1)) f.body ⟨[],f.params.length⟩).put (ins 18 0)
 ⟨f.name,f.params.length,c.locals,c.code⟩
def compileM(m:Mdl):List Cod:=if eX m then m.funcs.map (compF (m.vars.map (·.1))) else[]
def ascOk:Option bA->List bA->Bool
 |_,[]=>true
 |before,n::r=>aM n&&(match before with|none=>true|some b=>Op.bytesLess b.toList n.toList)&&ascOk (some n) r
def formedI(c:Cod)(i:Ins):Bool:=
 let none_:=decide (i.names.length=0);let noS:=decide (i.s=noB);let noM:=decide (i.m=noB);let noA:=decide (i.a=0)
 if i.op=0 then noS&&noM&&none_
 else if i.op=1 then(decide (i.a=0)||decide (i.a=1))&&noS&&noM&&none_
 else if i.op=2\/i.op=3 then(decide (0<=i.a)&&decide (i.a<c.locals))&&noS&&noM&&none_
 else if i.op=10\/i.op=11 then(decide (0<=i.a)&&decide (i.a<c.code.length))&&noS&&noM&&none_
 else if i.op=16\/i.op=17 then(decide (0<=i.a)&&decide (i.a<8))&&noS&&noM&&none_
 else if i.op=15 then(decide (i.a=1)||decide (i.a=2)||decide (i.a=4)||decide (i.a=8))&&noS&&noM&&none_
 else if i.op=13 then aM i.s&&noA&&noM&&none_
 else if i.op=14 then(decide (0<=i.a)&&decide (i.a<=6)&&aM i.s&&(decide (i.m=noB)||aM i.m))&&none_
 else if i.op=12 then(ascOk none i.names&&decide (i.names.length<=8))&&noA&&noS&&noM
 else if i.op=4\/i.op=5\/i.op=6\/i.op=7\/i.op=8\/i.op=9\/i.op=18\/i.op=19 then noA&&noS&&noM&&none_
 else false
def needsI(i:Ins):Int×Int:=
 if i.op=0\/i.op=1\/i.op=2\/i.op=16 then(0,1)
 else if i.op=4\/i.op=5\/i.op=6\/i.op=7\/i.op=8 then(2,1)
 else if i.op=9\/i.op=13\/i.op=15\/i.op=17 then(1,1)
 else if i.op=12 then(i.names.length,1)
 else if i.op=14 then(i.a,1)
 else if i.op=10 then(0,0)
 else(1,0)
def behindI(i:Ins)(k:Int):List Int:=
 if i.op=18 then[] else if i.op=10 then[i.a] else if i.op=11 then[k+1,i.a] else[k+1]
def insAt(l:List Ins)(k:Nat):Ins:=l.getD k ⟨19,0,noB,noB,[]⟩
def lookAt(n:Nat)(h:Int):List Int->List Int->List Int->Option (List Int×List Int)
 |[],out,todo=>some (out,todo)
 |k::r,out,todo=>
  if k=n then none
  else if out.getD k.toNat 0<0 then lookAt n h r (out.set k.toNat h) (todo++[k])
  else if out.getD k.toNat 0≠h then none
  else lookAt n h r out todo
def heightsFrom(l:List Ins):Nat->List Int->List Int->Option (List Int)
 |0,out,_=>some out
 |_+1,out,[]=>some out
 |f+1,out,k::todo=>
  if out.getD k.toNat 0<(needsI (insAt l k.toNat)).1\/((insAt l k.toNat).op=18/\out.getD k.toNat 0≠1) then none
  else match lookAt l.length (out.getD k.toNat 0-(needsI (insAt l k.toNat)).1+(needsI (insAt l k.toNat)).2) (behindI (insAt l k.toNat) k) out todo with
   |none=>none
   |some (out2,todo2)=>heightsFrom l f out2 todo2
def rightC(c:Cod):Bool:=
 aM c.name&&decide (c.params<=6)&&decide (c.params<=c.locals)&&decide (c.code.length≠0)&&c.code.all (formedI c)&&
 (heightsFrom c.code (c.code.length+1) ((List.replicate c.code.length (-1:Int)).set 0 0) [0]).isSome
def itoaB(n:Int):List UInt8:=Lib.itoa n
def wordsL:List (List UInt8):=[[105,110,116],[98,111,111,108],[108,111,97,100],[115,116,111,114,101],[97,100,100],[115,117,98],[109,117,108],[108,101,115,115],[101,113],[110,111,116],[106,117,109,112],[102,97,108,115,101],[114,101,99],[102,105,101,108,100],[99,97,108,108],[97,99,116],[103,101,116],[115,101,116],[114,101,116,117,114,110],[112,111,112]]
def lineL(i:Ins):List UInt8:=
 wordsL.getD i.op.toNat []++
 (if i.op=13 then[32]++i.s.data.toList
 else if i.op=14 then[32]++(if i.m=noB then[46] else i.m.data.toList)++[32]++i.s.data.toList++[32]++itoaB i.a
 else if i.op=12 then i.names.flatMap (fun x=>[32]++x.data.toList)
 else if i.op=4\/i.op=5\/i.op=6\/i.op=7\/i.op=8\/i.op=9\/i.op=18\/i.op=19 then[]
 else[32]++itoaB i.a)++[10]
def codL(c:Cod):List UInt8:=[102,117,110,99,32]++c.name.data.toList++[32]++itoaB c.params++[32]++itoaB c.locals++[10]++c.code.flatMap lineL
def listC(l:List Cod):bA:=if l.all rightC then⟨(l.flatMap codL).toArray⟩ else noB
def compileStep(s:bA):Int×bA:=match eI s with
 | .error (_,e)=>(e,noB)
 | .ok m=>(0,listC (compileM m))
def numX(n:Int):bA:=bs (Lib.itoa n)
def eL(op:Int):Nat×bA:=match eJ.find? fun o=>decide (o.2.1=op) with
 |some o=>(o.2.2,o.1)
 |none=>(if op=11\/op=12\/op=18 then 0 else if op=10 then 3 else if op=14 then 7 else 8,noB)
def atForm(p:Nat×List bA)(form:Nat):List bA:=if p.1<form then aS::(p.2++[bQ]) else p.2
def aL:List (List bA)->List bA
 |[]=>[]
 |[x]=>x
 |x::y::r=>x++aY::aL (y::r)
def argT(as:List (Nat×List bA))(k form:Nat):List bA:=atForm (as.getD k (8,[])) form
def iG:List bA->List (Nat×List bA)->List (List bA)
 |s::names,a::as=>(s::kEq::a.2)::iG names as
 |_,_=>[]
def jH(op n:Int)(s m:bA)(names:List bA)(as:List (Nat×List bA)):List bA:=
 if(eL op).2≠noB then argT as 0 (if(eL op).1=4 then 5 else(eL op).1)++(eL op).2::argT as 1 ((eL op).1+1)
 else if op=0 then[numX n]
 else if op=1 then[if n=1 then cU else bU]
 else if op=2 then[s]
 else if op=17 then[gM,s]
 else if op=18 then mL::s::argT as 0 0
 else if op=10 then mD::argT as 0 3
 else if op=14 then argT as 0 7++[kX,s]
 else if op=12 then lJ::s::kEq::(argT as 0 0++kIn::argT as 1 0)
 else if op=11 then kIf::(argT as 0 0++kU::(argT as 1 0++kV::argT as 2 0))
 else if op=13 then bH::(aL (iG names as)++[cL])
 else(if m≠noB then[m,kX] else[])++((if op=16 then(cD.filter fun w=>decide (w.2=n)).map (·.1) else[s])++aS::(aL (as.map (·.2))++[bQ]))
def jE:Xp->Nat
 | .mk op _ _ _ _ _=>(eL op).1
mutual
def aG:Xp->List bA
 | .mk op n s m names args=>jH op n s m names (cV args)
def cV:List Xp->List (Nat×List bA)
 |[]=>[]
 |x::r=>(jE x,aG x)::cV r
end
def aX(e:Xp)(form:Nat):List bA:=atForm (jE e,aG e) form
mutual
def dH:Ty->List bA
 | .mk k fs=>if k=0 then[kIntW] else if k=1 then[kBool] else bH::(aL (cE fs)++[cL])
def cE:List (bA×Ty)->List (List bA)
 |[]=>[]
 |(s,t)::r=>(s::dH t)::cE r
end
def effT(e:Int):List bA:=(cD.filter fun w=>decide (Go.bits .and .i64 e w.2≠0)).map (·.1)
def fnT(f:Fnc):List bA:=
 (if f.pub then[kF] else[])++(kFn::f.name::aS::(aL (cE f.params)++bQ::(dH f.result++((if f.effects≠0 then[hM] else[])++(effT f.effects++kEq::aG f.body)))))
def jG(m:Mdl):List (List bA):=
 [bZ,m.name]::(m.uses.map (fun s=>[pC,s])++(List.zipWith (fun(f:Fld)e=>nJ::f.1::(dH f.2++kEq::aG e)) m.vars m.init++(m.funcs.map fnT++
  (if m.moves then[kK::aS::(aL (cE m.old)++bQ::iB::(aL (m.forward.map aG)++nT::aL (m.back.map aG)))] else[]))))
def iI:List bA->List UInt8
 |[]=>[]
 |[x]=>x.data.toList
 |x::y::r=>x.data.toList++32::iI (y::r)
def fW(ts:List bA):List UInt8:=iI (ts++[dB])++[10]
def textM(m:Mdl):bA:=bs ((jG m).flatMap fW)
def mG(s:bA):Except Int bA:=if 8000<s.size then .error 6 else .ok s
def jD(e:Xp):Except Int bA:=if aJ 12 e then mG (bs (iI (aG e))) else .error 1
def kD(m:Mdl):Except Int bA:=if eX m then mG (textM m) else .error 1
def dS(t:bA):Bool:=eT t||(cO t).isSome||dU.any fun x=>decide (x=t)
def iA(t:bA):Int:=if eT t then 0 else if(cO t).isSome then 1 else 2
def TokIs(k:Tok)(t:bA):Prop:=k.kind=iA t/\k.text=t/\k.n=((cO t).getD 0:Nat)
inductive dG:List UInt8->List bA->Prop where
 |none (b:List UInt8):(∀c∈b,cI c=true)->dG b []
 |more (b:List UInt8) (t:bA) (r:List UInt8) (ts:List bA):(∀c∈b,cI c=true)->dS t=true->(∀c,r.head? =some c->cI c=true)->dG r ts->dG (b++(t.data.toList++r)) (t::ts)
theorem blank_cases{c:UInt8}(h:cI c=true):c=32\/c=9\/c=10:=by
 unfold cI at h;simp only[Bool.or_eq_true,decide_eq_true_eq] at h;rcases h with(h|h)|h
 ·exact .inl (UInt8.toNat_inj.1 h)
 ·exact .inr (.inl (UInt8.toNat_inj.1 h))
 exact .inr (.inr (UInt8.toNat_inj.1 h))
theorem takeWhile_all{p:UInt8->Bool}:∀{a b:List UInt8},(∀c∈a,p c=true)->(∀c,b.head? =some c->p c=false)->(a++b).takeWhile p=a
 |[],b,_,h=>by
  cases b with
  |nil=>rfl
  |cons c r=>simp[h c rfl]
 |x::a,b,h1,h2=>by
  rw[List.cons_append,List.takeWhile_cons,h1 x (by simp),if_pos rfl,takeWhile_all (fun c hc=>h1 c (by simp[hc])) h2]
theorem span_all{p:UInt8->Bool}{a b:List UInt8}(h1:∀c∈a,p c=true)(h2:∀c,b.head? =some c->p c=false):cR p (a++b)=a.length:=by
 unfold cR;rw[takeWhile_all h1 h2]
theorem headB_app{s t:bA}{r:List UInt8}(h:s.data.toList=t.data.toList++r):iJ s t.data.toList.length=t:=by
 unfold iJ;apply ByteArray.ext;apply Array.toList_inj.1;rw[ByteArray.data_extract,Array.toList_extract,List.extract_eq_take_drop,h];simp
theorem cZ(s:bA):s.size=s.data.toList.length:=by rw[Array.length_toList];rfl
theorem restB_list(s:bA)(i:Nat):(eZ s i).data.toList=s.data.toList.drop i:=by
 unfold eZ;rw[ByteArray.data_extract,Array.toList_extract,List.extract_eq_take_drop,List.take_of_length_le];rw[List.length_drop,cZ];omega
theorem blank_not{c:UInt8}(h:cI c=true):jL c=false/\cF c=false/\fT c=false:=by
 rcases blank_cases h with rfl|rfl|rfl<;>decide
theorem letter_facts{c:UInt8}(h:fT c=true):cF c=false/\cI c=false:=by
 unfold fT at h;simp only[Bool.and_eq_true,decide_eq_true_eq] at h;unfold cF cI;constructor
 ·rw[Bool.and_eq_false_iff];right;rw[decide_eq_false_iff_not];omega
 simp only[Bool.or_eq_false_iff,decide_eq_false_iff_not];omega
theorem digit_facts{c:UInt8}(h:cF c=true):fT c=false/\cI c=false:=by
 unfold cF at h;simp only[Bool.and_eq_true,decide_eq_true_eq] at h;unfold fT cI;constructor
 ·rw[Bool.and_eq_false_iff];left;rw[decide_eq_false_iff_not];omega
 simp only[Bool.or_eq_false_iff,decide_eq_false_iff_not];omega
theorem word_parts{t:bA}(h:eT t=true):∃c r,t.data.toList=c::r/\fT c=true/\(∀x∈t.data.toList,jL x=true):=by
 unfold eT at h;split at h
 ·cases h
 rename_i c r hd;simp only[Bool.and_eq_true] at h;exact⟨c,r,hd,h.1.1,fun x hx=>List.all_eq_true.1 h.2 x hx⟩
theorem mJ{t:bA}{n:Nat}(h:cO t=some n):∃c r,t.data.toList=c::r/\cF c=true/\(∀x∈t.data.toList,cF x=true):=by
 unfold cO at h;split at h
 ·cases h
 rename_i c r hd;split at h
 ·rename_i hc;simp only[Bool.and_eq_true] at hc;have uQ:=hc.1.1.1;exact⟨c,r,hd,List.all_eq_true.1 uQ c (by rw[hd];simp),fun x hx=>List.all_eq_true.1 uQ x hx⟩
 cases h
theorem lU{t:bA}(h:eT t=true):cO t=none:=by
 obtain⟨c,r,hd,hc,-⟩:=word_parts h
 cases hn:cO t with
 |none=>rfl
 |some n=>
  obtain⟨c',r',hd',M5,-⟩:=mJ hn;rw[hd] at hd';cases hd';rw[(letter_facts hc).1] at M5;cases M5
theorem signs_facts:∀t∈dU,eT t=false/\cO t=none/\∃c r,t.data.toList=c::r/\fT c=false/\cF c=false/\cI c=false:=by
 intro t ht;simp only[dU,List.mem_cons,List.not_mem_nil,or_false] at ht;rcases ht with h|h|h|h|h|h|h|h|h|h|h|h|h|h<;>subst h<;>exact⟨by decide+kernel,by decide+kernel,_,_,rfl,by decide,by decide,by decide⟩
theorem token_cases{t:bA}(h:dS t=true):eT t=true\/(∃n,cO t=some n)\/t∈dU:=by
 unfold dS at h;rw[Bool.or_eq_true,Bool.or_eq_true] at h;rcases h with(h|h)|h
 ·exact .inl h
 ·exact .inr (.inl (Option.isSome_iff_exists.1 h))
 obtain⟨x,hx,e⟩:=List.any_eq_true.1 h;rw[decide_eq_true_eq] at e;rw[<-e];exact .inr (.inr hx)
theorem token_head{t:bA}(h:dS t=true):∃c r,t.data.toList=c::r/\cI c=false:=by
 rcases token_cases h with h|⟨n,h⟩|h
 ·obtain⟨c,r,hd,hc,-⟩:=word_parts h;exact⟨c,r,hd,(letter_facts hc).2⟩
 ·obtain⟨c,r,hd,hc,-⟩:=mJ h;exact⟨c,r,hd,(digit_facts hc).2⟩
 obtain⟨-,-,c,r,hd,-,-,hb⟩:=signs_facts t h;exact⟨c,r,hd,hb⟩
theorem sign_find{s t:bA}{r:List UInt8}(ht:t∈dU)(hs:s.data.toList=t.data.toList++r)(hr:∀c,r.head? =some c->cI c=true):dU.find? (kB s)=some t:=by
 have hb:∀x,kB s x=x.data.toList.isPrefixOf (t.data.toList++r):=fun x=>by unfold kB;rw[hs]
 have hf:dU.find? (kB s)=dU.find? fun x=>x.data.toList.isPrefixOf (t.data.toList++r):=by
  congr 1;exact funext hb
 rw[hf];clear hf hb hs
 cases r with
 |nil=>
  simp only[dU,List.mem_cons,List.not_mem_nil,or_false] at ht;rcases ht with h|h|h|h|h|h|h|h|h|h|h|h|h|h<;>subst h<;>rfl
 |cons c r=>
  simp only[dU,List.mem_cons,List.not_mem_nil,or_false] at ht;rcases blank_cases (hr c rfl) with rfl|rfl|rfl<;>rcases ht with h|h|h|h|h|h|h|h|h|h|h|h|h|h<;>subst h<;>rfl
theorem nextTok_of{s t:bA}{r:List UInt8}(ht:dS t=true)(hs:s.data.toList=t.data.toList++r)(hr:∀c,r.head? =some c->cI c=true):eR s=.ok (iA t,t,((cO t).getD 0:Nat)):=by
 rcases token_cases ht with h|⟨n,h⟩|h
 ·obtain⟨c,q,hd,hc,uQ⟩:=word_parts h;have vR:cR jL s.data.toList=t.data.toList.length:=by rw[hs];exact span_all uQ fun c hc=>(blank_not (hr c hc)).1
  unfold eR;rw[vR,headB_app hs,h];have EW:s.data.toList=c::(q++r):=by rw[hs,hd];rfl
  rw[EW];simp only[hc,if_true];unfold iA;rw[h,lU h];rfl
 ·obtain⟨c,q,hd,hc,uQ⟩:=mJ h;have vR:cR cF s.data.toList=t.data.toList.length:=by rw[hs];exact span_all uQ fun c hc=>(blank_not (hr c hc)).2.1
  have hw:eT t=false:=by
   cases hw:eT t with
   |false=>rfl
   |true=>rw[lU hw] at h;cases h
  unfold eR;rw[vR,headB_app hs,h];have EW:s.data.toList=c::(q++r):=by rw[hs,hd];rfl
  rw[EW];simp only[(digit_facts hc).1,hc,if_true,Bool.false_eq_true,if_false];unfold iA;rw[hw,h];rfl
 obtain⟨hw,hn,c,q,hd,CF,sI,-⟩:=signs_facts t h;unfold eR;rw[sign_find h hs hr];have EW:s.data.toList=c::(q++r):=by rw[hs,hd];rfl
 rw[EW];simp only[CF,sI,Bool.false_eq_true,if_false];unfold iA;rw[hw,hn];rfl
theorem lex_spells{s:bA}:∀{b:List UInt8}{ts:List bA},dG b ts->∀(f i:Nat)(out:List Tok),s.data.toList.drop i=b->i<=s.size->ts.length<f->
  ∃l:List Tok,eK s f i out=.ok (out++(l++[⟨3,⟨#[]⟩,0,s.size⟩]))/\l.length=ts.length/\∀(k:Nat)t,ts[k]? =some t->∃tok,l[k]? =some tok/\TokIs tok t:=by
 intro b ts h
 induction h with
 |none b hb=>
  intro f i out hd hi hf;obtain⟨f,rfl⟩:∃g,f=g+1:=⟨f-1,by omega⟩;refine⟨[],?_,rfl,fun k t h=>by simp at h⟩
  have vR:cR cI (eZ s i).data.toList=b.length:=by
   rw[restB_list,hd];have:=span_all (a:=b) (b:=[]) hb (fun c hc=>by cases hc)
   rwa [List.append_nil] at this
  have qG:i+b.length=s.size:=by
   have:=congrArg List.length hd;rw[List.length_drop,<-cZ] at this;omega
  rw[eK,vR,if_pos qG];rfl
 |more b t r ts hb ht hr vR ih=>
  intro f i out hd hi hf;obtain⟨f,rfl⟩:∃g,f=g+1:=⟨f-1,by rw[List.length_cons] at hf;omega⟩;obtain⟨c,q,htd,hcb⟩:=token_head ht
  have vR:cR cI (eZ s i).data.toList=b.length:=by
   rw[restB_list,hd]
   exact span_all hb fun c' M5=>by
    rw[htd] at M5;cases M5;exact hcb
  have qG:i+b.length+t.size+r.length=s.size:=by
   have:=congrArg List.length hd;rw[List.length_drop,<-cZ,List.length_append,List.length_append,<-cZ] at this;omega
  have htp:0<t.size:=by rw[cZ,htd];simp
  have hdr:s.data.toList.drop (i+b.length)=t.data.toList++r:=by rw[<-List.drop_drop,hd,List.drop_left]
  have hdr2:s.data.toList.drop (i+b.length+t.size)=r:=by rw[<-List.drop_drop,hdr,cZ,List.drop_left]
  obtain⟨l,h1,h2,h3⟩:=ih f (i+b.length+t.size) (out++[⟨iA t,t,((cO t).getD 0:Nat),(i+b.length:Nat)⟩]) hdr2 (by omega) (by rw[List.length_cons] at hf;omega);refine⟨⟨iA t,t,((cO t).getD 0:Nat),(i+b.length:Nat)⟩::l,?_,by rw[List.length_cons,List.length_cons,h2],fun k t' hk=>?_⟩
  ·rw[eK,vR,if_neg (by omega),nextTok_of ht (by rw[restB_list,hdr]) hr];simp only;rw[h1];simp
  cases k with
  |zero=>
   cases hk;exact⟨_,rfl,rfl,rfl,rfl⟩
  |succ k=>exact h3 k t' hk
theorem lex_of{s:bA}{ts:List bA}(h:dG s.data.toList ts)(hs:s.size<=8000)(hn:ts.length<=s.size):
  ∃l:List Tok,lX s=.ok (l++[⟨3,⟨#[]⟩,0,s.size⟩])/\l.length=ts.length/\∀(k:Nat)t,ts[k]? =some t->∃tok,l[k]? =some tok/\TokIs tok t:=by
 obtain⟨l,h1,h2,h3⟩:=lex_spells h (s.size+1) 0 [] rfl (Nat.zero_le _) (by omega);refine⟨l,?_,h2,h3⟩;unfold lX;rw[if_neg (by omega),h1];rfl
theorem dG.length{b:List UInt8}{ts:List bA}(h:dG b ts):ts.length<=b.length:=by
 induction h with
 |none b hb=>simp
 |more b t r ts hb ht hr vR ih=>
  obtain⟨c,q,htd,-⟩:=token_head ht;rw[htd];simp;omega
theorem dG.blanks{b r:List UInt8}{us:List bA}(hb:∀c∈b,cI c=true)(h:dG r us):dG (b++r) us:=by
 cases h with
 |none r hr=>exact .none _ fun c hc=>(List.mem_append.1 hc).elim (hb c) (hr c)
 |more b2 t r ts pN ht hr vR=>
  rw[<-List.append_assoc];exact .more _ t r ts (fun c hc=>(List.mem_append.1 hc).elim (hb c) (pN c)) ht hr vR
theorem dG.joined:∀{ts:List bA}{r:List UInt8}{us:List bA},(∀t∈ts,dS t=true)->(∀c,r.head? =some c->cI c=true)->dG r us->dG (iI ts++r) (ts++us)
 |[],r,us,_,_,h=>h
 |[t],r,us,ht,hr,h=>by
  have:=dG.more [] t r us (fun c hc=>by cases hc) (ht t (by simp)) hr h;exact this
 |t::u::ts,r,us,ht,hr,h=>by
  have h1:=dG.joined (ts:=u::ts) (fun x hx=>ht x (by simp[hx])) hr h;have h2:dG ([32]++(iI (u::ts)++r)) ((u::ts)++us):=dG.blanks (by decide) h1;have:=dG.more [] t ([32]++(iI (u::ts)++r)) ((u::ts)++us) (fun c hc=>by cases hc) (ht t (by simp)) (fun c hc=>by cases hc;decide) h2;simpa[iI] using this
theorem dG.line{ts:List bA}{r:List UInt8}{us:List bA}(ht:∀t∈ts,dS t=true)(h:dG r us):dG (fW ts++r) (ts++dB::us):=by
 have h2:=dG.blanks (b:=[10]) (by decide) h
 have:=dG.joined (ts:=ts++[dB]) (r:=[10]++r) (fun t h=>by
  rcases List.mem_append.1 h with h|h
  ·exact ht t h
  rw[List.mem_singleton.1 h];decide+kernel) (fun c hc=>by cases hc;decide) h2
 unfold fW;simpa using this
theorem dG.lines:∀{L:List (List bA)},(∀ts∈L,∀t∈ts,dS t=true)->dG (L.flatMap fW) (L.flatMap fun ts=>ts++[dB])
 |[],_=>.none [] (fun c hc=>by cases hc)
 |ts::L,h=>by
  have:=dG.line (h ts (by simp)) (dG.lines (L:=L) fun x hx=>h x (by simp[hx]));simpa using this
theorem dG.spread{g:UInt8->UInt8}(hg:∀c,cI c=true->cI (g c)=true)(hk:∀c,cI c=false->g c=c){b:List UInt8}{ts:List bA}(h:dG b ts)(hin:∀t∈ts,∀c∈t.data.toList,cI c=false):dG (b.map g) ts:=by
 induction h with
 |none b hb=>exact .none _ fun c hc=>by obtain⟨x,hx,rfl⟩:=List.mem_map.1 hc;exact hg x (hb x hx)
 |more b t r ts hb ht hr vR ih=>
  rw[List.map_append,List.map_append,show t.data.toList.map g=t.data.toList from(List.map_congr_left fun c hc=>hk c (hin t (by simp) c hc)).trans (List.map_id _)];refine .more _ t _ ts (fun c hc=>by obtain⟨x,hx,rfl⟩:=List.mem_map.1 hc;exact hg x (hb x hx)) ht (fun c hc=>?_) (ih fun t ht=>hin t (by simp[ht]))
  cases r with
  |nil=>cases hc
  |cons x r=>
   cases hc;exact hg x (hr x rfl)
end Go.Proofs.YtiionicikdnnpaaGreatDoor
