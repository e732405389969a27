/- Texts of this seat, joined. -/
import Derived.Test.YtiionicikdnnpaaGreatDoorZb
import Derived.Lib.ItoaNum
import Derived.Lib.Split
import Derived.Lib.Join
set_option linter.unusedVariables false
set_option linter.unusedSimpArgs false
namespace Go.Proofs.YtiionicikdnnpaaGreatDoor
def qY(c:UInt8):Bool:=decide (33<=(c.toNat:Int))&&decide ((c.toNat:Int)<=126)
def isName(s:bA):Bool:=s.data.toList.all qY&& !s.toList.isEmpty&&decide (s.size<=20)
structure Stp where
 kind:Int
 src:List bA
 out:bA
 sorted:Bool
structure Fil where
 name:bA
 text:bA
def cW(s:Stp):Bool:=
 if(!isName s.out||s.src.any fun x=> !isName x) then false
 else if s.kind=2 then decide (s.src.length<=60)
 else if s.kind=1 then decide (s.src.length<=60)&& !s.sorted
 else if s.kind=0\/s.kind=3\/s.kind=4\/s.kind=5 then decide (s.src.length=1)&& !s.sorted
 else false
def stepPure(s:Stp):Bool:=cW s&&decide (s.kind≠4)&&(decide (s.kind≠2)||s.sorted)
def eN:List Fil->List bA->Bool
 |[],_=>true
 |f::r,known=>if(known.any fun x=>decide (x=f.name))|| !isName f.name||decide (65536<f.text.size) then false else eN r (f.name::known)
def cX(l:List Fil):Bool:=eN l []&&decide (l.length<=60)
def dK(l:List Fil)(name:bA):Option bA:=(l.find? fun f=>decide (f.name=name)).map (·.text)
def jP(l:List bA):List UInt8:=l.flatMap fun s=>s.data.toList++[10]
def rowsB(l:List bA):bA:=⟨(jP l).toArray⟩
def gA(l:List bA):List bA:=((l.map (·.data.toList)).mergeSort fun x y=>decide (x<=y)).map fun x=>⟨x.toArray⟩
def nl:bA:=⟨#[10]⟩
def nC(text:bA):List bA:=
 Lib.splitB nl 0 (Lib.countB ⟨(Lib.trimSuffix text.data.toList [10]).toArray⟩ nl) ⟨(Lib.trimSuffix text.data.toList [10]).toArray⟩
def cY(text:bA):List bA:=if text.toList.isEmpty then[] else gA (nC text)
def kW(x:Int)(n:Nat):Nat:=(x % (n:Int)).toNat
def fH(order:List Int):Nat->Nat->List bA->List bA
 |0,_,_=>[]
 |f+1,u,left=>match left[kW (order.getD u 0) left.length]? with
  |none=>[]
  |some x=>x::fH order f (u+1) (left.eraseIdx (kW (order.getD u 0) left.length))
def joinB(l:List bA):bA:=⟨(Lib.join (l.map (·.data.toList)) []).toArray⟩
def pN(n:Int):bA:=⟨(Lib.itoa n++[59]).toArray⟩
structure Tok where
 kind:Int
 text:bA
 n:Int
 pos:Int
def dL(c:UInt8):Bool:=decide (c.toNat=32)||decide (c.toNat=9)||decide (c.toNat=10)
def gF(c:UInt8):Bool:=decide (97<=c.toNat)&&decide (c.toNat<=122)
def cL(c:UInt8):Bool:=decide (48<=c.toNat)&&decide (c.toNat<=57)
def kH(c:UInt8):Bool:=gF c||cL c
def dW(p:UInt8->Bool)(l:List UInt8):Nat:=(l.takeWhile p).length
def jK(s:bA)(n:Nat):bA:=s.extract 0 n
def iF(s:bA)(n:Nat):bA:=s.extract n s.size
def eZ(s:bA):Bool:=match s.data.toList with
 |[]=>false
 |c::_=>gF c&&decide (s.size<=20)&&s.data.toList.all kH
def jM(l:List UInt8):Nat:=l.foldl (fun n c=>10*n+(c.toNat-48)) 0
def cZ(s:bA):Option Nat:=match s.data.toList with
 |[]=>none
 |c::_=>if s.data.toList.all cL&& !(decide (c.toNat=48)&&decide (s.size≠1))&&decide (s.size<=13)&&decide (jM s.data.toList<=1099511627776) then some (jM s.data.toList) else none
def eM:List bA:=[⟨#[61,61]⟩,⟨#[59]⟩,⟨#[44]⟩,⟨#[61]⟩,⟨#[60]⟩,⟨#[43]⟩,⟨#[45]⟩,⟨#[42]⟩,⟨#[46]⟩,⟨#[33]⟩,⟨#[40]⟩,⟨#[41]⟩,⟨#[123]⟩,⟨#[125]⟩]
def lA(s x:bA):Bool:=x.data.toList.isPrefixOf s.data.toList
def fI(s:bA):Except Int (Int×bA×Int):=match s.data.toList with
 |[]=>.error 10
 |c::_=>
  if gF c then(if eZ (jK s (dW kH s.data.toList)) then .ok (0,jK s (dW kH s.data.toList),0) else .error 12)
  else if cL c then(match cZ (jK s (dW cL s.data.toList)) with
   |some n=>.ok (1,jK s (dW cL s.data.toList),n)
   |none=>.error 3)
  else match eM.find? (lA s) with
   |some x=>.ok (2,x,0)
   |none=>.error 10
def gE(s:bA):Nat->Nat->List Tok->Except (Int×Int) (List Tok)
 |0,_,out=>.ok out
 |f+1,i,out=>
  if i+dW dL (iF s i).data.toList=s.size then .ok (out++[⟨3,⟨#[]⟩,0,s.size⟩])
  else match fI (iF s (i+dW dL (iF s i).data.toList)) with
   | .error e=>.error ((i+dW dL (iF s i).data.toList:Nat),e)
   | .ok (k,t,n)=>gE s f (i+dW dL (iF s i).data.toList+t.size) (out++[⟨k,t,n,(i+dW dL (iF s i).data.toList:Nat)⟩])
def lexL(s:bA):Except (Int×Int) (List Tok):=if 8000<s.size then .error (0,6) else gE s (s.size+1) 0 []
inductive Xp where
 |mk (op n:Int) (s m:bA) (names:List bA) (args:List Xp)
inductive Ty where
 |mk (kind:Int) (fields:List (bA×Ty))
abbrev Fld:=bA×Ty
structure Fnc where
 name:bA
 pub:Bool
 params:List Fld
 result:Ty
 effects:Int
 body:Xp
structure Mdl where
 name:bA
 uses:List bA
 vars:List Fld
 init:List Xp
 funcs:List Fnc
 moves:Bool
 old:List Fld
 forward:List Xp
 back:List Xp
abbrev bs(l:List UInt8):bA:=⟨l.toArray⟩
abbrev lQ:bA:=bs [32,97,110,100,32,98,97,99,107,32,98,111,111,108,32,99,108,111,99,107,32,101,108,115,101,32,102,97,108,115,101,32,102,105,108,101,115,32,102,110,32,102,111,114,119,97,114,100,32,103,101,116,32,105,102,32,105,110,32,105,110,116,32,108,101,116,32,109,111,100,117,108,101,32,109,111,118,101,32,110,101,116,32,110,111,116,32,111,114,32,112,117,98,32,115,101,99,114,101,116,115,32,115,101,116,32,116,104,101,110,32,116,114,117,101,32,117,115,101,32,118,97,114,32]
def aK(s:bA):Bool:=eZ s&& !Lib.contains lQ.data.toList ((bs [32]++s)++bs [32]).data.toList
def bR(s:bA):Int:=if s=bs [102,105,108,101,115] then 1 else if s=bs [110,101,116] then 2 else if s=bs [99,108,111,99,107] then 4 else if s=bs [115,101,99,114,101,116,115] then 8 else 0
abbrev PR(α:Type):=Except (Int×Int) (α×Nat)
def aL(l:List Tok)(i:Nat):Tok:=l.getD i ⟨3,⟨#[]⟩,0,0⟩
def kL{α:Type}(l:List Tok)(i:Nat)(e:Int):PR α:=.error ((aL l i).pos,e)
def isP(l:List Tok)(i:Nat)(s:bA):Bool:=decide ((aL l i).kind≠3)&&decide ((aL l i).text=s)
def cP(l:List Tok)(i:Nat):Bool:=decide ((aL l i).kind=0)&&aK (aL l i).text
def eB(l:List Tok)(i:Nat)(s:bA):PR Unit:=if isP l i s then .ok ((),i+1) else kL l i 11
def lX(l:List Tok)(i:Nat)(fits:Bool)(s:bA):PR Unit:=if isP l i s then(if fits then .ok ((),i+1) else kL l i 6) else kL l i 11
def gK(l:List Tok)(i:Nat):PR bA:=if cP l i then .ok ((aL l i).text,i+1) else kL l i 11
def gQ(l:List Tok)(i:Nat)(known:bA->Bool):PR bA:=if cP l i then(if known (aL l i).text then kL l i 5 else .ok ((aL l i).text,i+1)) else kL l i 11
def gtB(a b:bA):Bool:= !(Op.bytesLess a.toList b.toList||a.toList==b.toList)
def fP(l:List Tok)(i:Nat)(than:bA)(any:Bool):PR bA:=
 if cP l i then(if any&&decide ((aL l i).text=than) then kL l i 5 else if any&& !gtB (aL l i).text than then kL l i 12 else .ok ((aL l i).text,i+1)) else kL l i 11
def fD(l:List Tok)(i:Nat)(have_ most:Nat):PR Unit:=if have_<most then .ok ((),i) else kL l i 6
abbrev kIf:bA:=bs [105,102]
abbrev lS:bA:=bs [116,104,101,110]
abbrev lU:bA:=bs [101,108,115,101]
abbrev mT:bA:=bs [108,101,116]
abbrev kEq:bA:=bs [61]
abbrev kIn:bA:=bs [105,110]
abbrev oE:bA:=bs [115,101,116]
abbrev nR:bA:=bs [110,111,116]
abbrev dC:bA:=bs [116,114,117,101]
abbrev cB:bA:=bs [102,97,108,115,101]
abbrev iC:bA:=bs [103,101,116]
abbrev aX:bA:=bs [40]
abbrev cF:bA:=bs [41]
abbrev bH:bA:=bs [123]
abbrev dH:bA:=bs [125]
abbrev mH:bA:=bs [46]
abbrev aY:bA:=bs [44]
abbrev dP:bA:=bs [59]
abbrev kOr:bA:=bs [111,114]
abbrev kAnd:bA:=bs [97,110,100]
abbrev kEqEq:bA:=bs [61,61]
abbrev kLess:bA:=bs [60]
abbrev kPlus:bA:=bs [43]
abbrev kMinus:bA:=bs [45]
abbrev kStar:bA:=bs [42]
abbrev kIntW:bA:=bs [105,110,116]
abbrev kBool:bA:=bs [98,111,111,108]
abbrev cJ:bA:=bs [109,111,100,117,108,101]
abbrev kUse:bA:=bs [117,115,101]
abbrev pK:bA:=bs [118,97,114]
abbrev lE:bA:=bs [112,117,98]
abbrev kFn:bA:=bs [102,110]
abbrev lT:bA:=bs [109,111,118,101]
abbrev jS:bA:=bs [102,111,114,119,97,114,100]
abbrev rC:bA:=bs [98,97,99,107]
abbrev jA:bA:=bs [33]
abbrev qF:bA:=bs [102,105,108,101,115]
abbrev kNet:bA:=bs [110,101,116]
abbrev qG:bA:=bs [99,108,111,99,107]
abbrev lH:bA:=bs [115,101,99,114,101,116,115]
abbrev noB:bA:=⟨#[]⟩
def PR.bnd{α β:Type}(m:PR α)(k:α->Nat->PR β):PR β:=match m with
 | .error x=>.error x
 | .ok (a,j)=>k a j
def eW:List (bA×Int×Nat):=[(kOr,9,1),(kAnd,8,2),(kEqEq,7,4),(kLess,6,4),(kPlus,3,5),(kMinus,4,5),(kStar,5,6)]
def kA(l:List Tok)(i:Nat):Option (bA×Int×Nat):=eW.find? fun o=>isP l i o.1
mutual
def cD:Xp->Nat
 | .mk _ _ _ _ _ args=>eH args+1
def eH:List Xp->Nat
 |[]=>0
 |x::r=>max (cD x) (eH r)
end
mutual
def bI:Ty->Nat
 | .mk _ fields=>cU fields+1
def cU:List (bA×Ty)->Nat
 |[]=>0
 |(_,t)::r=>max (bI t) (cU r)
end
abbrev RecP:=Nat->Nat->PR Xp
section
variable (l:List Tok) (rec:RecP)
def lJ:Nat->Xp->Nat->PR Xp
 |0,e,i=>.ok (e,i)
 |f+1,e,i=>if isP l i mH then(gK l (i+1)).bnd fun s j=>lJ f (.mk 14 0 s noB [] [e]) j else .ok (e,i)
def nH(form:Nat):Nat->Nat->Xp->Nat->PR Xp
 |0,_,e,i=>.ok (e,i)
 |f+1,own,e,i=>match kA l i with
  |none=>.ok (e,i)
  |some (_,op,fm)=>if fm<form\/own<fm\/(own=4/\fm=4) then .ok (e,i)
   else(rec (fm+1) (i+1)).bnd fun b j=>nH form f fm (.mk op 0 noB noB [] [e,b]) j
def fJ(i:Nat):Bool:=isP l i mH&&decide (i+2<l.length)&&decide ((aL l (i+1)).kind=0)&&aK (aL l (i+1)).text&&decide ((aL l (i+2)).kind=2)&&decide ((aL l (i+2)).text=aX)
def eP(i:Nat):Bool:=
 if(aL l i).kind=1 then true
 else if(aL l i).kind=2 then decide ((aL l i).text=aX)||decide ((aL l i).text=bH)
 else if(aL l i).kind=3 then false
 else([kIf,mT,oE,nR,dC,cB,iC].any fun s=>decide ((aL l i).text=s))||decide (bR (aL l i).text≠0)||aK (aL l i).text
def bS:Nat->List Xp->Nat->PR (List Xp)
 |0,out,i=>.ok (out,i)
 |f+1,out,i=>(if eP l i then fD l i out.length 6 else .ok ((),i)).bnd fun _ _=>(rec 0 i).bnd fun e j=>
  if isP l j aY then bS f (out++[e]) (j+1) else(eB l j cF).bnd fun _ k=>.ok (out++[e],k)
def iA(i:Nat):PR (List Xp):=(eB l i aX).bnd fun _ j=>if isP l j cF then .ok ([],j+1) else bS l rec (l.length+1) [] j
def dA:Nat->List bA->List Xp->bA->Nat->PR Xp
 |0,names,args,_,i=>.ok (.mk 13 0 noB noB names args,i)
 |f+1,names,args,last,i=>(if cP l i then fD l i names.length 8 else .ok ((),i)).bnd fun _ _=>(fP l i last (decide (0<names.length))).bnd fun s j=>(eB l j kEq).bnd fun _ j2=>(rec 0 j2).bnd fun e j3=>
  if isP l j3 aY then dA f (names++[s]) (args++[e]) s (j3+1) else(eB l j3 dH).bnd fun _ k=>.ok (.mk 13 0 noB noB (names++[s]) (args++[e]),k)
def kV(i:Nat):PR Xp:=if isP l i dH then .ok (.mk 13 0 noB noB [] [],i+1) else dA l rec (l.length+1) [] [] noB i
def pW(s:bA)(j:Nat):PR Xp:=
 if isP l j aX then(iA l rec j).bnd fun as k=>.ok (.mk 15 0 s noB [] as,k)
 else if fJ l j then(gK l (j+1)).bnd fun f k=>(iA l rec k).bnd fun as k2=>.ok (.mk 15 0 f s [] as,k2)
 else .ok (.mk 2 0 s noB [] [],j)
def oY(i:Nat):PR Xp:=(rec 0 i).bnd fun e j=>(eB l j cF).bnd fun _ k=>.ok (e,k)
def aQ(i:Nat):PR Xp:=
 if(aL l i).kind=1 then .ok (.mk 0 (aL l i).n noB noB [] [],i+1)
 else if isP l i dC then .ok (.mk 1 1 noB noB [] [],i+1)
 else if isP l i cB then .ok (.mk 1 0 noB noB [] [],i+1)
 else if isP l i iC then(gK l (i+1)).bnd fun s j=>.ok (.mk 17 0 s noB [] [],j)
 else if(aL l i).kind=0/\bR (aL l i).text≠0 then(eB l (i+1) aX).bnd fun _ j=>(oY l rec j).bnd fun e k=>.ok (.mk 16 (bR (aL l i).text) noB noB [] [e],k)
 else if isP l i bH then kV l rec (i+1)
 else if isP l i aX then oY l rec (i+1)
 else(gK l i).bnd fun s j=>pW l rec s j
def cH(form i:Nat):PR (Xp×Nat):=
 if form=0/\isP l i kIf=true then(rec 0 (i+1)).bnd fun a j=>(eB l j lS).bnd fun _ j2=>(rec 0 j2).bnd fun b j3=>(eB l j3 lU).bnd fun _ j4=>(rec 0 j4).bnd fun c j5=>.ok ((.mk 11 0 noB noB [] [a,b,c],0),j5)
 else if form=0/\isP l i mT=true then(gK l (i+1)).bnd fun s j=>(eB l j kEq).bnd fun _ j2=>(rec 0 j2).bnd fun a j3=>(eB l j3 kIn).bnd fun _ j4=>(rec 0 j4).bnd fun b j5=>.ok ((.mk 12 0 s noB [] [a,b],0),j5)
 else if form=0/\isP l i oE=true then(gK l (i+1)).bnd fun s j=>(rec 0 j).bnd fun a j2=>.ok ((.mk 18 0 s noB [] [a],0),j2)
 else if form<=3/\isP l i nR=true then(rec 3 (i+1)).bnd fun a j=>.ok ((.mk 10 0 noB noB [] [a],3),j)
 else(aQ l rec i).bnd fun e j=>.ok ((e,8),j)
end
def bM(l:List Tok):Nat->RecP
 |0,_,i=>kL l i 11
 |f+1,form,i=>(cH l (bM l f) form i).bnd fun r j=>
  (if 7<=r.2 then lJ l (l.length+1) r.1 j else .ok (r.1,j)).bnd fun e k=>nH l (bM l f) form (l.length+1) r.2 e k
def oI(l:List Tok)(form i:Nat):PR Xp:=bM l (l.length+1) form i
section
variable (l:List Tok)
def nU(i:Nat)(t:Ty)(e:bA):PR Bool:=if isP l i aY then(lX l i (decide (bI t<=4)) aY).bnd fun _ j=>.ok (false,j) else(lX l i (decide (bI t<=4)) e).bnd fun _ j=>.ok (true,j)
def eD(rec:Nat->PR Ty):Nat->List Fld->Nat->PR Ty
 |0,fs,i=>.ok (.mk 2 fs,i)
 |f+1,fs,i=>(if cP l i then fD l i fs.length 8 else .ok ((),i)).bnd fun _ _=>(fP l i ((fs.getLast?.map (·.1)).getD noB) (decide (0<fs.length))).bnd fun s j=>(rec j).bnd fun t j2=>(nU l j2 t dH).bnd fun q j3=>
  if q then .ok (.mk 2 (fs++[(s,t)]),j3) else eD rec f (fs++[(s,t)]) j3
def fK:Nat->Nat->PR Ty
 |0,i=>kL l i 11
 |f+1,i=>if isP l i kIntW then .ok (.mk 0 [],i+1) else if isP l i kBool then .ok (.mk 1 [],i+1)
  else(eB l i bH).bnd fun _ j=>if isP l j dH then .ok (.mk 2 [],j+1) else eD l (fK f) (l.length+1) [] j
def jV(i:Nat):PR Ty:=fK l (l.length+1) i
def dG(most:Nat):Nat->List Fld->Nat->PR (List Fld)
 |0,fs,i=>.ok (fs,i)
 |f+1,fs,i=>(if cP l i then fD l i fs.length most else .ok ((),i)).bnd fun _ _=>(gQ l i (fun s=>fs.any fun x=>decide (x.1=s))).bnd fun s j=>(jV l j).bnd fun t j2=>(nU l j2 t cF).bnd fun q j3=>
  if q then .ok (fs++[(s,t)],j3) else dG most f (fs++[(s,t)]) j3
def iQ(most i:Nat):PR (List Fld):=(eB l i aX).bnd fun _ j=>if isP l j cF then .ok ([],j+1) else dG l most (l.length+1) [] j
def kI(i:Nat)(e:bA):PR Xp:=(oI l 0 i).bnd fun x j=>(lX l j (decide (cD x<=12)) e).bnd fun _ k=>.ok (x,k)
def fM(e:bA):Nat->List Xp->Nat->PR (List Xp)
 |0,out,i=>(kI l i e).bnd fun x j=>.ok (out++[x],j)
 |n+1,out,i=>(kI l i aY).bnd fun x j=>fM e n (out++[x]) j
def gX(n i:Nat)(e:bA):PR (List Xp):=match n with
 |0=>(eB l i e).bnd fun _ j=>.ok ([],j)
 |n+1=>fM l e n [] i
def dQ:List (bA×Int)->Int->Nat->Int×Nat
 |[],n,i=>(n,i)
 |(s,b)::r,n,i=>if isP l i s then dQ r (n+b) (i+1) else dQ r n i
def cR:List (bA×Int):=[(qF,1),(kNet,2),(qG,4),(lH,8)]
def nL(i:Nat)(fits:Bool):PR (Int×Bool):=if isP l i jA then(lX l i fits jA).bnd fun _ j=>if(dQ l cR 0 j).1≠0 then .ok (((dQ l cR 0 j).1,true),(dQ l cR 0 j).2) else kL l (dQ l cR 0 j).2 11 else .ok ((0,fits),i)
def jY(i:Nat)(known:bA->Bool):PR Fnc:=
 (eB l (if isP l i lE then i+1 else i) kFn).bnd fun _ j=>(gQ l j known).bnd fun name j2=>(iQ l 6 j2).bnd fun ps j3=>(jV l j3).bnd fun t j4=>(nL l j4 (decide (bI t<=4))).bnd fun ef j5=>
  (lX l j5 ef.2 kEq).bnd fun _ j6=>(kI l j6 dP).bnd fun e j7=>.ok (⟨name,isP l i lE,ps,t,ef.1,e⟩,j7)
def fV:Nat->List bA->Nat->PR (List bA)
 |0,out,i=>.ok (out,i)
 |f+1,out,i=>if isP l i kUse then(fD l i out.length 12).bnd fun _ _=>(gQ l (i+1) (fun s=>out.any fun x=>decide (x=s))).bnd fun s j=>(eB l j dP).bnd fun _ k=>fV f (out++[s]) k else .ok (out,i)
def gH:Nat->List Fld->List Xp->Nat->PR (List Fld×List Xp)
 |0,vs,es,i=>.ok ((vs,es),i)
 |f+1,vs,es,i=>if isP l i pK then(fD l i vs.length 8).bnd fun _ _=>(gQ l (i+1) (fun s=>vs.any fun x=>decide (x.1=s))).bnd fun s j=>(jV l j).bnd fun t j2=>(lX l j2 (decide (bI t<=4)) kEq).bnd fun _ j3=>(kI l j3 dP).bnd fun e k=>gH f (vs++[(s,t)]) (es++[e]) k else .ok ((vs,es),i)
def eV:Nat->List Fnc->Nat->PR (List Fnc)
 |0,fs,i=>.ok (fs,i)
 |f+1,fs,i=>if isP l i lE||isP l i kFn then(fD l i fs.length 30).bnd fun _ _=>(jY l i (fun s=>fs.any fun x=>decide (x.name=s))).bnd fun x k=>eV f (fs++[x]) k else .ok (fs,i)
def moveP(n i:Nat):PR (Bool×List Fld×List Xp×List Xp):=if isP l i lT then(iQ l 8 (i+1)).bnd fun old j=>(eB l j jS).bnd fun _ j2=>(gX l n j2 rC).bnd fun fw j3=>(gX l old.length j3 dP).bnd fun bk k=>.ok ((true,old,fw,bk),k) else .ok ((false,[],[],[]),i)
def gD:PR Mdl:=(eB l 0 cJ).bnd fun _ i=>(gK l i).bnd fun name i2=>(eB l i2 dP).bnd fun _ i3=>(fV l (l.length+1) [] i3).bnd fun us i4=>(gH l (l.length+1) [] [] i4).bnd fun ve i5=>
 (eV l (l.length+1) [] i5).bnd fun fs i6=>(moveP l ve.1.length i6).bnd fun mv i7=>if(aL l i7).kind=3 then .ok (⟨name,us,ve.1,ve.2,fs,mv.1,mv.2.1,mv.2.2.1,mv.2.2.2⟩,i7) else kL l i7 11
end
def iG(s:bA):Except (Int×Int) Mdl:=match lexL s with
 | .error e=>.error e
 | .ok l=>match gD l with
  | .error e=>.error e
  | .ok (m,_)=>.ok m
end Go.Proofs.YtiionicikdnnpaaGreatDoor
namespace Go.Proofs.YtiionicikdnnpaaGreatDoor
def fF(p:Ty->Bool):Option bA->List Fld->Bool
 |_,[]=>true
 |before,(n,t)::r=>aK n&&(match before with|none=>true|some b=>gtB n b)&&p t&&fF p (some n) r
def aR:Nat->Ty->Bool
 |0,_=>false
 |d+1,.mk k fs=>decide (0<=k)&&decide (k<3)&&decide (fs.length<=8)&&(decide (k=2)||decide (fs.length=0))&&fF (aR d) none fs
def fQ:Xp->(Int×bA×bA×List bA)×Int
 | .mk op n s m names _=>
  if op=0\/op=1 then((n,noB,noB,[]),0)
  else if op=2\/op=17 then((0,s,noB,[]),0)
  else if op=18\/op=14 then((0,s,noB,[]),1)
  else if op=16 then((n,noB,noB,[]),1)
  else if op=10 then((0,noB,noB,[]),1)
  else if op=12 then((0,s,noB,[]),2)
  else if op=11 then((0,noB,noB,[]),3)
  else if op=13 then((0,noB,noB,names),names.length)
  else if op=15 then((0,s,m,[]),-1)
  else((0,noB,noB,[]),2)
def dY:Option bA->List bA->Bool
 |_,[]=>true
 |before,n::r=>aK n&&(match before with|none=>true|some b=>gtB n b)&&dY (some n) r
def eY:Xp->Bool
 | .mk op n s m names args=>
  if op=0 then decide (0<=n)&&decide (n<=1099511627776)
  else if op=1 then decide (n=0)||decide (n=1)
  else if op=16 then decide (n=1)||decide (n=2)||decide (n=4)||decide (n=8)
  else if op=2\/op=17\/op=18\/op=14\/op=12 then aK s
  else if op=15 then aK s&&(decide (m=noB)||aK m)&&decide (args.length<=6)
  else if op=13 then dY none names&&decide (names.length<=8)
  else true
def aJ:Nat->Xp->Bool
 |0,_=>false
 |d+1,.mk op n s m names args=>
  decide (0<=op)&&decide (op<19)&&
  (decide ((fQ (.mk op n s m names args)).2<0)||decide ((fQ (.mk op n s m names args)).2=args.length))&&
  decide ((fQ (.mk op n s m names args)).1.1=n)&&decide ((fQ (.mk op n s m names args)).1.2.1=s)&&decide ((fQ (.mk op n s m names args)).1.2.2.1=m)&&
  decide ((fQ (.mk op n s m names args)).1.2.2.2.length=names.length)&&eY (.mk op n s m names args)&&args.all (aJ d)
def bC:List Fld->List bA->Bool
 |[],_=>true
 |(n,t)::r,known=>if(known.any fun x=>decide (x=n))|| !aK n|| !aR 4 t then false else bC r (n::known)
def bL(l:List Fld)(most:Nat):Bool:=bC l []&&decide (l.length<=most)
def cK(l:List Xp)(n:Nat):Bool:=l.all (aJ 12)&&decide (l.length=n)
def dN:List bA->List bA->Bool
 |[],_=>true
 |n::r,known=>if(known.any fun x=>decide (x=n))|| !aK n then false else dN r (n::known)
def effOk(e:Int):Bool:=decide (Go.bits .andNot .i64 e 15=0)
def fG(f:Fnc):Bool:=bL f.params 6&&aR 4 f.result&&aJ 12 f.body&&effOk f.effects
def cI:List Fnc->List bA->Bool
 |[],_=>true
 |f::r,known=>if(known.any fun x=>decide (x=f.name))|| !aK f.name|| !fG f then false else cI r (f.name::known)
def gI(m:Mdl):Bool:=
 dN m.uses []&&cI m.funcs []&&aK m.name&&decide (m.uses.length<=12)&&decide (m.funcs.length<=30)&&bL m.vars 8&&cK m.init m.vars.length&&
 (m.moves||decide (m.old.length=0))&&bL m.old 8&&cK m.forward (if m.moves then m.vars.length else 0)&&cK m.back m.old.length
structure Ins where
 op:Int
 a:Int
 s:bA
 m:bA
 names:List bA
structure Cod where
 name:bA
 params:Nat
 locals:Nat
 code:List Ins
structure Cmp where
 code:List Ins
 locals:Nat
def Cmp.put(c:Cmp)(i:Ins):Cmp:=⟨c.code++[i],c.locals⟩
def Cmp.fix(c:Cmp)(k:Nat):Cmp:=⟨c.code.modify k (fun i=>{i with a:=c.code.length}),c.locals⟩
def eU(names:List bA)(s:bA):Int:=match names with
 |[]=> -1
 |x::r=>if 0<=eU r s then eU r s+1 else if x=s then 0 else -1
def kJ(vars:List bA)(s:bA):Int:=match vars.findIdx? (fun x=>decide (x=s)) with
 |some k=>k
 |none=> -1
def ins(op a:Int):Ins:=⟨op,a,noB,noB,[]⟩
def gY(vars:List bA):Xp->Ins
 | .mk op n s m names args=>
  if op=3 then ins 4 0 else if op=4 then ins 5 0 else if op=5 then ins 6 0 else if op=6 then ins 7 0 else if op=7 then ins 8 0 else if op=10 then ins 9 0
  else if op=13 then⟨12,0,noB,noB,names⟩
  else if op=14 then⟨13,0,s,noB,[]⟩
  else if op=15 then⟨14,args.length,s,m,[]⟩
  else if op=16 then ins 15 n
  else ins 17 (kJ vars s)
def iR(yes no:Cmp->Cmp)(c:Cmp):Cmp:=
 let c2:=yes (c.put (ins 11 0));let c3:=(c2.put (ins 10 0)).fix c.code.length
 (no c3).fix c2.code.length
def bJ(vars:List bA):Nat->List bA->Xp->Cmp->Cmp
 |0,_,_,c=>c
 |d+1,names,.mk op n s m ns args,c=>
  if op=0 then c.put (ins 0 n)
  else if op=1 then c.put (ins 1 n)
  else if op=2 then c.put (ins 2 (eU names s))
  else if op=17 then c.put (ins 16 (kJ vars s))
  else if op=8 then match args with
   |[x,y]=>iR (bJ vars d names y) (fun c=>c.put (ins 1 0)) (bJ vars d names x c)
   |_=>c
  else if op=9 then match args with
   |[x,y]=>iR (fun c=>c.put (ins 1 1)) (bJ vars d names y) (bJ vars d names x c)
   |_=>c
  else if op=11 then match args with
   |[x,y,z]=>iR (bJ vars d names y) (bJ vars d names z) (bJ vars d names x c)
   |_=>c
  else if op=12 then match args with
   |[x,y]=>
    let c1:=(bJ vars d names x c).put (ins 3 names.length)
    bJ vars d (names++[s]) y ⟨c1.code,max c1.locals (names.length+1)⟩
   |_=>c
  else(args.foldl (fun c x=>bJ vars d names x c) c).put (gY vars (.mk op n s m ns args))
def compF(vars:List bA)(f:Fnc):Cod:=
 let c:=(bJ vars 12 (f.params.map (·.1)) f.body ⟨[],f.params.length⟩).put (ins 18 0)
 ⟨f.name,f.params.length,c.locals,c.code⟩
def jG(m:Mdl):List Cod:=if gI m then m.funcs.map (compF (m.vars.map (·.1))) else[]
def pI:Option bA->List bA->Bool
 |_,[]=>true
 |before,n::r=>aK n&&(match before with|none=>true|some b=>Op.bytesLess b.toList n.toList)&&pI (some n) r
def cQ(c:Cod)(i:Ins):Bool:=
 let none_:=decide (i.names.length=0);let noS:=decide (i.s=noB);let noM:=decide (i.m=noB);let noA:=decide (i.a=0)
 if i.op=0 then noS&&noM&&none_
 else if i.op=1 then(decide (i.a=0)||decide (i.a=1))&&noS&&noM&&none_
 else if i.op=2\/i.op=3 then(decide (0<=i.a)&&decide (i.a<c.locals))&&noS&&noM&&none_
 else if i.op=10\/i.op=11 then(decide (0<=i.a)&&decide (i.a<c.code.length))&&noS&&noM&&none_
 else if i.op=16\/i.op=17 then(decide (0<=i.a)&&decide (i.a<8))&&noS&&noM&&none_
 else if i.op=15 then(decide (i.a=1)||decide (i.a=2)||decide (i.a=4)||decide (i.a=8))&&noS&&noM&&none_
 else if i.op=13 then aK i.s&&noA&&noM&&none_
 else if i.op=14 then(decide (0<=i.a)&&decide (i.a<=6)&&aK i.s&&(decide (i.m=noB)||aK i.m))&&none_
 else if i.op=12 then(pI none i.names&&decide (i.names.length<=8))&&noA&&noS&&noM
 else if i.op=4\/i.op=5\/i.op=6\/i.op=7\/i.op=8\/i.op=9\/i.op=18\/i.op=19 then noA&&noS&&noM&&none_
 else false
def lD(i:Ins):Int×Int:=
 if i.op=0\/i.op=1\/i.op=2\/i.op=16 then(0,1)
 else if i.op=4\/i.op=5\/i.op=6\/i.op=7\/i.op=8 then(2,1)
 else if i.op=9\/i.op=13\/i.op=15\/i.op=17 then(1,1)
 else if i.op=12 then(i.names.length,1)
 else if i.op=14 then(i.a,1)
 else if i.op=10 then(0,0)
 else(1,0)
def lM(i:Ins)(k:Int):List Int:=
 if i.op=18 then[] else if i.op=10 then[i.a] else if i.op=11 then[k+1,i.a] else[k+1]
def pE(l:List Ins)(k:Nat):Ins:=l.getD k ⟨19,0,noB,noB,[]⟩
def iV(n:Nat)(h:Int):List Int->List Int->List Int->Option (List Int×List Int)
 |[],out,todo=>some (out,todo)
 |k::r,out,todo=>
  if k=n then none
  else if out.getD k.toNat 0<0 then iV n h r (out.set k.toNat h) (todo++[k])
  else if out.getD k.toNat 0≠h then none
  else iV n h r out todo
def fE(l:List Ins):Nat->List Int->List Int->Option (List Int)
 |0,out,_=>some out
 |_+1,out,[]=>some out
 |f+1,out,k::todo=>
  if out.getD k.toNat 0<(lD (pE l k.toNat)).1\/((pE l k.toNat).op=18/\out.getD k.toNat 0≠1) then none
  else match iV l.length (out.getD k.toNat 0-(lD (pE l k.toNat)).1+(lD (pE l k.toNat)).2) (lM (pE l k.toNat) k) out todo with
   |none=>none
   |some (out2,todo2)=>fE l f out2 todo2
def eI(c:Cod):Bool:=
 aK c.name&&decide (c.params<=6)&&decide (c.params<=c.locals)&&decide (c.code.length≠0)&&c.code.all (cQ c)&&
 (fE c.code (c.code.length+1) ((List.replicate c.code.length (-1:Int)).set 0 0) [0]).isSome
def itoaB(n:Int):List UInt8:=Lib.itoa n
def jZ:List (List UInt8):=[[105,110,116],[98,111,111,108],[108,111,97,100],[115,116,111,114,101],[97,100,100],[115,117,98],[109,117,108],[108,101,115,115],[101,113],[110,111,116],[106,117,109,112],[102,97,108,115,101],[114,101,99],[102,105,101,108,100],[99,97,108,108],[97,99,116],[103,101,116],[115,101,116],[114,101,116,117,114,110],[112,111,112]]
def iZ(i:Ins):List UInt8:=
 jZ.getD i.op.toNat []++
 (if i.op=13 then[32]++i.s.data.toList
 else if i.op=14 then[32]++(if i.m=noB then[46] else i.m.data.toList)++[32]++i.s.data.toList++[32]++itoaB i.a
 else if i.op=12 then i.names.flatMap (fun x=>[32]++x.data.toList)
 else if i.op=4\/i.op=5\/i.op=6\/i.op=7\/i.op=8\/i.op=9\/i.op=18\/i.op=19 then[]
 else[32]++itoaB i.a)++[10]
def codL(c:Cod):List UInt8:=[102,117,110,99,32]++c.name.data.toList++[32]++itoaB c.params++[32]++itoaB c.locals++[10]++c.code.flatMap iZ
def listC(l:List Cod):bA:=if l.all eI then⟨(l.flatMap codL).toArray⟩ else noB
def bP(s:bA):Int×bA:=match iG s with
 | .error (_,e)=>(e,noB)
 | .ok m=>(0,listC (jG m))
def stampB(t:bA)(n:Int):bA:=(t++pN n)++⟨#[10]⟩
def cV(s:Stp)(saw:List bA)(clock order:List Int)(u0 u1:Int):bA×List bA×Int×Int:=
 if s.kind=0\/s.kind=1 then(joinB saw,saw,u0,u1)
 else if s.kind=3 then(rowsB (cY (saw.headD ByteArray.empty)),saw,u0,u1)
 else if s.kind=4 then(stampB (saw.headD ByteArray.empty) (clock.getD u0.toNat 0),saw,u0+1,u1)
 else if s.sorted then(rowsB (gA s.src),[],u0,u1)
 else(rowsB (fH order s.src.length u1.toNat (gA s.src)),[],u0,u1+s.src.length)
abbrev DoRes:=Except Int (bA×List bA×Int×Int)
def nF(files:List Fil):List bA->Option (List bA)
 |[]=>some []
 |x::r=>match dK files x,nF files r with
  |some t,some l=>some (t::l)
  |_,_=>none
def fT(C:bA->Int×bA)(s:Stp)(files:List Fil)(clock order:List Int)(u0 u1:Int):DoRes:=
 if !cW s|| !cX files||decide (min u0 u1<0) then .error 1
 else if(dK files s.out).isSome then .error 5
 else if 60<=files.length then .error 6
 else match nF files s.src with
  |none=>.error 4
  |some saw=>
   if s.kind=5 then
    if(C (saw.headD ByteArray.empty)).1≠0 then .error (C (saw.headD ByteArray.empty)).1
    else if 65536<(C (saw.headD ByteArray.empty)).2.size then .error 6
    else .ok ((C (saw.headD ByteArray.empty)).2,saw,u0,u1)
   else if 65536<(cV s saw clock order u0 u1).1.size then .error 6
   else .ok (cV s saw clock order u0 u1)
def oJ(s:Stp)(files:List Fil)(text:bA):List Fil:=files++[⟨s.out,text⟩]
def jB(out:List Int):Nat:=out.countP (fun x=>decide (x<0))
theorem negs_set{out:List Int}{k:Nat}{h:Int}(hk:k<out.length)(hn:out.getD k 0<0)(hh:0<=h):jB (out.set k h)+1=jB out:=by
 induction out generalizing k with
 |nil=>simp at hk
 |cons x out ih=>
  cases k with
  |zero=>
   simp at hn;simp[jB,hn,hh]
  |succ k=>
   simp at hk hn;have:=ih hk (by simpa using hn);unfold jB at this ⊢;rw[List.set_cons_succ,List.countP_cons,List.countP_cons];omega
theorem lookAt_end(n:Nat)(h:Int)(out todo:List Int):iV n h [] out todo=some (out,todo):=rfl
theorem lookAt_full{n:Nat}{h:Int}{r out todo:List Int}:iV n h ((n:Int)::r) out todo=none:=by rw[iV,if_pos rfl]
theorem lookAt_new{n:Nat}{h k:Int}{r out todo:List Int}(h1:k≠n)(h2:out.getD k.toNat 0<0):iV n h (k::r) out todo=iV n h r (out.set k.toNat h) (todo++[k]):=by rw[iV,if_neg h1,if_pos h2]
theorem lookAt_bad{n:Nat}{h k:Int}{r out todo:List Int}(h1:k≠n)(h2:¬out.getD k.toNat 0<0)(h3:out.getD k.toNat 0≠h):iV n h (k::r) out todo=none:=by rw[iV,if_neg h1,if_neg h2,if_pos h3]
theorem lookAt_same{n:Nat}{h k:Int}{r out todo:List Int}(h1:k≠n)(h2:¬out.getD k.toNat 0<0)(h3:¬out.getD k.toNat 0≠h):iV n h (k::r) out todo=iV n h r out todo:=by rw[iV,if_neg h1,if_neg h2,if_neg h3]
theorem behind_range{c:Cod}{i:Ins}{k:Nat}(hf:cQ c i=true)(hk:k<c.code.length):∀x∈lM i k,0<=x/\x<=c.code.length:=by
 intro x hx;unfold lM at hx;split at hx
 ·cases hx
 split at hx
 ·rename_i CK;simp at hx;subst hx
  have:0<=i.a/\i.a<c.code.length:=by
   unfold cQ at hf;simp[CK] at hf;omega
  omega
 split at hx
 ·rename_i h11
  have:0<=i.a/\i.a<c.code.length:=by
   unfold cQ at hf;simp[h11] at hf;omega
  simp at hx;rcases hx with rfl|rfl<;>omega
 simp at hx;subst hx;omega
theorem needs_range{c:Cod}{i:Ins}(hf:cQ c i=true):0<=(lD i).1/\(lD i).1<=8/\0<=(lD i).2/\(lD i).2<=1:=by
 unfold lD;split
 ·simp
 split
 ·simp
 split
 ·simp
 split
 ·rename_i AG
  have:i.names.length<=8:=by
   unfold cQ at hf;simp[AG] at hf;omega
  simp;omega
 split
 ·rename_i RR
  have:0<=i.a/\i.a<=6:=by
   unfold cQ at hf;simp[RR] at hf;omega
  simp;omega
 split
 ·simp
 simp
theorem formed_op{c:Cod}{i:Ins}(hf:cQ c i=true):0<=i.op/\i.op<20:=by
 unfold cQ at hf;simp only at hf
 repeat' split at hf
 all_goals first|omega|(simp at hf)
def numX(n:Int):bA:=bs (Lib.itoa n)
def hJ(op:Int):Nat×bA:=match eW.find? fun o=>decide (o.2.1=op) with
 |some o=>(o.2.2,o.1)
 |none=>(if op=11\/op=12\/op=18 then 0 else if op=10 then 3 else if op=14 then 7 else 8,noB)
def atForm(p:Nat×List bA)(form:Nat):List bA:=if p.1<form then aX::(p.2++[cF]) else p.2
def aM:List (List bA)->List bA
 |[]=>[]
 |[x]=>x
 |x::y::r=>x++aY::aM (y::r)
def argT(as:List (Nat×List bA))(k form:Nat):List bA:=atForm (as.getD k (8,[])) form
def kO:List bA->List (Nat×List bA)->List (List bA)
 |s::names,a::as=>(s::kEq::a.2)::kO names as
 |_,_=>[]
def kB(op n:Int)(s m:bA)(names:List bA)(as:List (Nat×List bA)):List bA:=
 if(hJ op).2≠noB then argT as 0 (if(hJ op).1=4 then 5 else(hJ op).1)++(hJ op).2::argT as 1 ((hJ op).1+1)
 else if op=0 then[numX n]
 else if op=1 then[if n=1 then dC else cB]
 else if op=2 then[s]
 else if op=17 then[iC,s]
 else if op=18 then oE::s::argT as 0 0
 else if op=10 then nR::argT as 0 3
 else if op=14 then argT as 0 7++[mH,s]
 else if op=12 then mT::s::kEq::(argT as 0 0++kIn::argT as 1 0)
 else if op=11 then kIf::(argT as 0 0++lS::(argT as 1 0++lU::argT as 2 0))
 else if op=13 then bH::(aM (kO names as)++[dH])
 else(if m≠noB then[m,mH] else[])++((if op=16 then(cR.filter fun w=>decide (w.2=n)).map (·.1) else[s])++aX::(aM (as.map (·.2))++[cF]))
def lG:Xp->Nat
 | .mk op _ _ _ _ _=>(hJ op).1
mutual
def aG:Xp->List bA
 | .mk op n s m names args=>kB op n s m names (eC args)
def eC:List Xp->List (Nat×List bA)
 |[]=>[]
 |x::r=>(lG x,aG x)::eC r
end
def bE(e:Xp)(form:Nat):List bA:=atForm (lG e,aG e) form
mutual
def dV:Ty->List bA
 | .mk k fs=>if k=0 then[kIntW] else if k=1 then[kBool] else bH::(aM (cO fs)++[dH])
def cO:List (bA×Ty)->List (List bA)
 |[]=>[]
 |(s,t)::r=>(s::dV t)::cO r
end
def effT(e:Int):List bA:=(cR.filter fun w=>decide (Go.bits .and .i64 e w.2≠0)).map (·.1)
def fnT(f:Fnc):List bA:=
 (if f.pub then[lE] else[])++(kFn::f.name::aX::(aM (cO f.params)++cF::(dV f.result++((if f.effects≠0 then[jA] else[])++(effT f.effects++kEq::aG f.body)))))
def nQ(m:Mdl):List (List bA):=
 [cJ,m.name]::(m.uses.map (fun s=>[kUse,s])++(List.zipWith (fun(f:Fld)e=>pK::f.1::(dV f.2++kEq::aG e)) m.vars m.init++(m.funcs.map fnT++
  (if m.moves then[lT::aX::(aM (cO m.old)++cF::jS::(aM (m.forward.map aG)++rC::aM (m.back.map aG)))] else[]))))
def lI:List bA->List UInt8
 |[]=>[]
 |[x]=>x.data.toList
 |x::y::r=>x.data.toList++32::lI (y::r)
def kQ(ts:List bA):List UInt8:=lI (ts++[dP])++[10]
def textM(m:Mdl):bA:=bs ((nQ m).flatMap kQ)
def pV(s:bA):Except Int bA:=if 8000<s.size then .error 6 else .ok s
def printX(e:Xp):Except Int bA:=if aJ 12 e then pV (bs (lI (aG e))) else .error 1
def mC(m:Mdl):Except Int bA:=if gI m then pV (textM m) else .error 1
def eL(t:bA):Bool:=eZ t||(cZ t).isSome||eM.any fun x=>decide (x=t)
def jE(t:bA):Int:=if eZ t then 0 else if(cZ t).isSome then 1 else 2
def TokIs(k:Tok)(t:bA):Prop:=k.kind=jE t/\k.text=t/\k.n=((cZ t).getD 0:Nat)
inductive dZ:List UInt8->List bA->Prop where
 |none (b:List UInt8):(∀c∈b,dL c=true)->dZ b []
 |more (b:List UInt8) (t:bA) (r:List UInt8) (ts:List bA):(∀c∈b,dL c=true)->eL t=true->(∀c,r.head? =some c->dL c=true)->dZ r ts->dZ (b++(t.data.toList++r)) (t::ts)
theorem blank_cases{c:UInt8}(h:dL c=true):c=32\/c=9\/c=10:=by
 unfold dL at h;simp only[Bool.or_eq_true,decide_eq_true_eq] at h;rcases h with(h|h)|h
 ·exact .inl (UInt8.toNat_inj.1 h)
 ·exact .inr (.inl (UInt8.toNat_inj.1 h))
 exact .inr (.inr (UInt8.toNat_inj.1 h))
theorem takeWhile_all{p:UInt8->Bool}:∀{a b:List UInt8},(∀c∈a,p c=true)->(∀c,b.head? =some c->p c=false)->(a++b).takeWhile p=a
 |[],b,_,h=>by
  cases b with
  |nil=>rfl
  |cons c r=>simp[h c rfl]
 |x::a,b,h1,h2=>by
  rw[List.cons_append,List.takeWhile_cons,h1 x (by simp),if_pos rfl,takeWhile_all (fun c hc=>h1 c (by simp[hc])) h2]
theorem span_all{p:UInt8->Bool}{a b:List UInt8}(h1:∀c∈a,p c=true)(h2:∀c,b.head? =some c->p c=false):dW p (a++b)=a.length:=by
 unfold dW;rw[takeWhile_all h1 h2]
theorem headB_app{s t:bA}{r:List UInt8}(h:s.data.toList=t.data.toList++r):jK s t.data.toList.length=t:=by
 unfold jK;apply ByteArray.ext;apply Array.toList_inj.1;rw[ByteArray.data_extract,Array.toList_extract,List.extract_eq_take_drop,h];simp
theorem eF(s:bA):s.size=s.data.toList.length:=by rw[Array.length_toList];rfl
theorem restB_list(s:bA)(i:Nat):(iF s i).data.toList=s.data.toList.drop i:=by
 unfold iF;rw[ByteArray.data_extract,Array.toList_extract,List.extract_eq_take_drop,List.take_of_length_le];rw[List.length_drop,eF];omega
theorem blank_not{c:UInt8}(h:dL c=true):kH c=false/\cL c=false/\gF c=false:=by
 rcases blank_cases h with rfl|rfl|rfl<;>decide
theorem letter_facts{c:UInt8}(h:gF c=true):cL c=false/\dL c=false:=by
 unfold gF at h;simp only[Bool.and_eq_true,decide_eq_true_eq] at h;unfold cL dL;constructor
 ·rw[Bool.and_eq_false_iff];right;rw[decide_eq_false_iff_not];omega
 simp only[Bool.or_eq_false_iff,decide_eq_false_iff_not];omega
theorem digit_facts{c:UInt8}(h:cL c=true):gF c=false/\dL c=false:=by
 unfold cL at h;simp only[Bool.and_eq_true,decide_eq_true_eq] at h;unfold gF dL;constructor
 ·rw[Bool.and_eq_false_iff];left;rw[decide_eq_false_iff_not];omega
 simp only[Bool.or_eq_false_iff,decide_eq_false_iff_not];omega
theorem word_parts{t:bA}(h:eZ t=true):∃c r,t.data.toList=c::r/\gF c=true/\(∀x∈t.data.toList,kH x=true):=by
 unfold eZ at h;split at h
 ·cases h
 rename_i c r hd;simp only[Bool.and_eq_true] at h;exact⟨c,r,hd,h.1.1,fun x hx=>List.all_eq_true.1 h.2 x hx⟩
theorem oC{t:bA}{n:Nat}(h:cZ t=some n):∃c r,t.data.toList=c::r/\cL c=true/\(∀x∈t.data.toList,cL x=true):=by
 unfold cZ at h;split at h
 ·cases h
 rename_i c r hd;split at h
 ·rename_i hc;simp only[Bool.and_eq_true] at hc;have sU:=hc.1.1.1;exact⟨c,r,hd,List.all_eq_true.1 sU c (by rw[hd];simp),fun x hx=>List.all_eq_true.1 sU x hx⟩
 cases h
theorem nE{t:bA}(h:eZ t=true):cZ t=none:=by
 obtain⟨c,r,hd,hc,-⟩:=word_parts h
 cases hn:cZ t with
 |none=>rfl
 |some n=>
  obtain⟨c',r',hd',RI,-⟩:=oC hn;rw[hd] at hd';cases hd';rw[(letter_facts hc).1] at RI;cases RI
theorem signs_facts:∀t∈eM,eZ t=false/\cZ t=none/\∃c r,t.data.toList=c::r/\gF c=false/\cL c=false/\dL c=false:=by
 intro t ht;simp only[eM,List.mem_cons,List.not_mem_nil,or_false] at ht;rcases ht with h|h|h|h|h|h|h|h|h|h|h|h|h|h<;>subst h<;>exact⟨by decide+kernel,by decide+kernel,_,_,rfl,by decide,by decide,by decide⟩
theorem token_cases{t:bA}(h:eL t=true):eZ t=true\/(∃n,cZ t=some n)\/t∈eM:=by
 unfold eL at h;rw[Bool.or_eq_true,Bool.or_eq_true] at h;rcases h with(h|h)|h
 ·exact .inl h
 ·exact .inr (.inl (Option.isSome_iff_exists.1 h))
 obtain⟨x,hx,e⟩:=List.any_eq_true.1 h;rw[decide_eq_true_eq] at e;rw[<-e];exact .inr (.inr hx)
theorem token_head{t:bA}(h:eL t=true):∃c r,t.data.toList=c::r/\dL c=false:=by
 rcases token_cases h with h|⟨n,h⟩|h
 ·obtain⟨c,r,hd,hc,-⟩:=word_parts h;exact⟨c,r,hd,(letter_facts hc).2⟩
 ·obtain⟨c,r,hd,hc,-⟩:=oC h;exact⟨c,r,hd,(digit_facts hc).2⟩
 obtain⟨-,-,c,r,hd,-,-,hb⟩:=signs_facts t h;exact⟨c,r,hd,hb⟩
theorem sign_find{s t:bA}{r:List UInt8}(ht:t∈eM)(hs:s.data.toList=t.data.toList++r)(hr:∀c,r.head? =some c->dL c=true):eM.find? (lA s)=some t:=by
 have hb:∀x,lA s x=x.data.toList.isPrefixOf (t.data.toList++r):=fun x=>by unfold lA;rw[hs]
 have hf:eM.find? (lA s)=eM.find? fun x=>x.data.toList.isPrefixOf (t.data.toList++r):=by
  congr 1;exact funext hb
 rw[hf];clear hf hb hs
 cases r with
 |nil=>
  simp only[eM,List.mem_cons,List.not_mem_nil,or_false] at ht;rcases ht with h|h|h|h|h|h|h|h|h|h|h|h|h|h<;>subst h<;>rfl
 |cons c r=>
  simp only[eM,List.mem_cons,List.not_mem_nil,or_false] at ht;rcases blank_cases (hr c rfl) with rfl|rfl|rfl<;>rcases ht with h|h|h|h|h|h|h|h|h|h|h|h|h|h<;>subst h<;>rfl
theorem nextTok_of{s t:bA}{r:List UInt8}(ht:eL t=true)(hs:s.data.toList=t.data.toList++r)(hr:∀c,r.head? =some c->dL c=true):fI s=.ok (jE t,t,((cZ t).getD 0:Nat)):=by
 rcases token_cases ht with h|⟨n,h⟩|h
 ·obtain⟨c,q,hd,hc,sU⟩:=word_parts h;have xP:dW kH s.data.toList=t.data.toList.length:=by rw[hs];exact span_all sU fun c hc=>(blank_not (hr c hc)).1
  unfold fI;rw[xP,headB_app hs,h];have OH:s.data.toList=c::(q++r):=by rw[hs,hd];rfl
  rw[OH];simp only[hc,if_true];unfold jE;rw[h,nE h];rfl
 ·obtain⟨c,q,hd,hc,sU⟩:=oC h;have xP:dW cL s.data.toList=t.data.toList.length:=by rw[hs];exact span_all sU fun c hc=>(blank_not (hr c hc)).2.1
  have hw:eZ t=false:=by
   cases hw:eZ t with
   |false=>rfl
   |true=>rw[nE hw] at h;cases h
  unfold fI;rw[xP,headB_app hs,h];have OH:s.data.toList=c::(q++r):=by rw[hs,hd];rfl
  rw[OH];simp only[(digit_facts hc).1,hc,if_true,Bool.false_eq_true,if_false];unfold jE;rw[hw,h];rfl
 obtain⟨hw,hn,c,q,hd,DP,tE,-⟩:=signs_facts t h;unfold fI;rw[sign_find h hs hr];have OH:s.data.toList=c::(q++r):=by rw[hs,hd];rfl
 rw[OH];simp only[DP,tE,Bool.false_eq_true,if_false];unfold jE;rw[hw,hn];rfl
theorem lex_spells{s:bA}:∀{b:List UInt8}{ts:List bA},dZ b ts->∀(f i:Nat)(out:List Tok),s.data.toList.drop i=b->i<=s.size->ts.length<f->
  ∃l:List Tok,gE s f i out=.ok (out++(l++[⟨3,⟨#[]⟩,0,s.size⟩]))/\l.length=ts.length/\∀(k:Nat)t,ts[k]? =some t->∃tok,l[k]? =some tok/\TokIs tok t:=by
 intro b ts h
 induction h with
 |none b hb=>
  intro f i out hd hi hf;obtain⟨f,rfl⟩:∃g,f=g+1:=⟨f-1,by omega⟩;refine⟨[],?_,rfl,fun k t h=>by simp at h⟩
  have xP:dW dL (iF s i).data.toList=b.length:=by
   rw[restB_list,hd];have:=span_all (a:=b) (b:=[]) hb (fun c hc=>by cases hc)
   rwa [List.append_nil] at this
  have hlen:i+b.length=s.size:=by
   have:=congrArg List.length hd;rw[List.length_drop,<-eF] at this;omega
  rw[gE,xP,if_pos hlen];rfl
 |more b t r ts hb ht hr xP ih=>
  intro f i out hd hi hf;obtain⟨f,rfl⟩:∃g,f=g+1:=⟨f-1,by rw[List.length_cons] at hf;omega⟩;obtain⟨c,q,htd,hcb⟩:=token_head ht
  have xP:dW dL (iF s i).data.toList=b.length:=by
   rw[restB_list,hd]
   exact span_all hb fun c' RI=>by
    rw[htd] at RI;cases RI;exact hcb
  have hlen:i+b.length+t.size+r.length=s.size:=by
   have:=congrArg List.length hd;rw[List.length_drop,<-eF,List.length_append,List.length_append,<-eF] at this;omega
  have htp:0<t.size:=by rw[eF,htd];simp
  have hdr:s.data.toList.drop (i+b.length)=t.data.toList++r:=by rw[<-List.drop_drop,hd,List.drop_left]
  have hdr2:s.data.toList.drop (i+b.length+t.size)=r:=by rw[<-List.drop_drop,hdr,eF,List.drop_left]
  obtain⟨l,h1,h2,h3⟩:=ih f (i+b.length+t.size) (out++[⟨jE t,t,((cZ t).getD 0:Nat),(i+b.length:Nat)⟩]) hdr2 (by omega) (by rw[List.length_cons] at hf;omega);refine⟨⟨jE t,t,((cZ t).getD 0:Nat),(i+b.length:Nat)⟩::l,?_,by rw[List.length_cons,List.length_cons,h2],fun k t' hk=>?_⟩
  ·rw[gE,xP,if_neg (by omega),nextTok_of ht (by rw[restB_list,hdr]) hr];simp only;rw[h1];simp
  cases k with
  |zero=>
   cases hk;exact⟨_,rfl,rfl,rfl,rfl⟩
  |succ k=>exact h3 k t' hk
theorem lex_of{s:bA}{ts:List bA}(h:dZ s.data.toList ts)(hs:s.size<=8000)(hn:ts.length<=s.size):
  ∃l:List Tok,lexL s=.ok (l++[⟨3,⟨#[]⟩,0,s.size⟩])/\l.length=ts.length/\∀(k:Nat)t,ts[k]? =some t->∃tok,l[k]? =some tok/\TokIs tok t:=by
 obtain⟨l,h1,h2,h3⟩:=lex_spells h (s.size+1) 0 [] rfl (Nat.zero_le _) (by omega);refine⟨l,?_,h2,h3⟩;unfold lexL;rw[if_neg (by omega),h1];rfl
theorem dZ.length{b:List UInt8}{ts:List bA}(h:dZ b ts):ts.length<=b.length:=by
 induction h with
 |none b hb=>simp
 |more b t r ts hb ht hr xP ih=>
  obtain⟨c,q,htd,-⟩:=token_head ht;rw[htd];simp;omega
theorem dZ.blanks{b r:List UInt8}{us:List bA}(hb:∀c∈b,dL c=true)(h:dZ r us):dZ (b++r) us:=by
 cases h with
 |none r hr=>exact .none _ fun c hc=>(List.mem_append.1 hc).elim (hb c) (hr c)
 |more b2 t r ts rQ ht hr xP=>
  rw[<-List.append_assoc];exact .more _ t r ts (fun c hc=>(List.mem_append.1 hc).elim (hb c) (rQ c)) ht hr xP
theorem dZ.joined:∀{ts:List bA}{r:List UInt8}{us:List bA},(∀t∈ts,eL t=true)->(∀c,r.head? =some c->dL c=true)->dZ r us->dZ (lI ts++r) (ts++us)
 |[],r,us,_,_,h=>h
 |[t],r,us,ht,hr,h=>by
  have:=dZ.more [] t r us (fun c hc=>by cases hc) (ht t (by simp)) hr h;exact this
 |t::u::ts,r,us,ht,hr,h=>by
  have h1:=dZ.joined (ts:=u::ts) (fun x hx=>ht x (by simp[hx])) hr h;have h2:dZ ([32]++(lI (u::ts)++r)) ((u::ts)++us):=dZ.blanks (by decide) h1;have:=dZ.more [] t ([32]++(lI (u::ts)++r)) ((u::ts)++us) (fun c hc=>by cases hc) (ht t (by simp)) (fun c hc=>by cases hc;decide) h2;simpa[lI] using this
theorem dZ.line{ts:List bA}{r:List UInt8}{us:List bA}(ht:∀t∈ts,eL t=true)(h:dZ r us):dZ (kQ ts++r) (ts++dP::us):=by
 have h2:=dZ.blanks (b:=[10]) (by decide) h
 have:=dZ.joined (ts:=ts++[dP]) (r:=[10]++r) (fun t h=>by
  rcases List.mem_append.1 h with h|h
  ·exact ht t h
  rw[List.mem_singleton.1 h];decide+kernel) (fun c hc=>by cases hc;decide) h2
 unfold kQ;simpa using this
theorem dZ.lines:∀{L:List (List bA)},(∀ts∈L,∀t∈ts,eL t=true)->dZ (L.flatMap kQ) (L.flatMap fun ts=>ts++[dP])
 |[],_=>.none [] (fun c hc=>by cases hc)
 |ts::L,h=>by
  have:=dZ.line (h ts (by simp)) (dZ.lines (L:=L) fun x hx=>h x (by simp[hx]));simpa using this
theorem dZ.spread{g:UInt8->UInt8}(hg:∀c,dL c=true->dL (g c)=true)(hk:∀c,dL c=false->g c=c){b:List UInt8}{ts:List bA}(h:dZ b ts)(hin:∀t∈ts,∀c∈t.data.toList,dL c=false):dZ (b.map g) ts:=by
 induction h with
 |none b hb=>exact .none _ fun c hc=>by obtain⟨x,hx,rfl⟩:=List.mem_map.1 hc;exact hg x (hb x hx)
 |more b t r ts hb ht hr xP ih=>
  rw[List.map_append,List.map_append,show t.data.toList.map g=t.data.toList from(List.map_congr_left fun c hc=>hk c (hin t (by simp) c hc)).trans (List.map_id _)];refine .more _ t _ ts (fun c hc=>by obtain⟨x,hx,rfl⟩:=List.mem_map.1 hc;exact hg x (hb x hx)) ht (fun c hc=>?_) (ih fun t ht=>hin t (by simp[ht]))
  cases r with
  |nil=>cases hc
  |cons x r=>
   cases hc;exact hg x (hr x rfl)
end Go.Proofs.YtiionicikdnnpaaGreatDoor
