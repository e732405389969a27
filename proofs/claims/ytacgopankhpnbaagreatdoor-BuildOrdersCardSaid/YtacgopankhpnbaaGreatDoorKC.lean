/- Texts of this seat, joined. -/
import Derived.Lib.ItoaNum
import Derived.Lib.Split
import Derived.Lib.Join
namespace Go.Proofs.YtacgopankhpnbaaGreatDoor
def qJ(c:UInt8):Bool:=decide (33<=(c.toNat:Int))&&decide ((c.toNat:Int)<=126)
def fA(s:ByteArray):Bool:=s.data.toList.all qJ&& !s.toList.isEmpty&&decide (s.size<=20)
structure Stp where
 kind:Int
 src:List ByteArray
 out:ByteArray
 sorted:Bool
structure Fil where
 name:ByteArray
 text:ByteArray
def aP(s:Stp):Bool:=
 if(!fA s.out||s.src.any fun x=> !fA x) then false
 else if s.kind=2 then decide (s.src.length<=60)
 else if s.kind=1 then decide (s.src.length<=60)&& !s.sorted
 else if s.kind=0\/s.kind=3\/s.kind=4\/s.kind=5 then decide (s.src.length=1)&& !s.sorted
 else false
def cH(s:Stp):Bool:=aP s&&decide (s.kind≠4)&&(decide (s.kind≠2)||s.sorted)
def dN:List Fil->List ByteArray->Bool
 |[],_=>true
 |f::r,aO=>if(aO.any fun x=>decide (x=f.name))|| !fA f.name||decide (65536<f.text.size) then false else dN r (f.name::aO)
def aR(l:List Fil):Bool:=dN l []&&decide (l.length<=60)
def aI(l:List Fil)(name:ByteArray):Option ByteArray:=(l.find? fun f=>decide (f.name=name)).map (·.text)
def jD(l:List ByteArray):List UInt8:=l.flatMap fun s=>s.data.toList++[10]
def rowsB(l:List ByteArray):ByteArray:=⟨(jD l).toArray⟩
def fI(l:List ByteArray):List ByteArray:=((l.map (·.data.toList)).mergeSort fun x y=>decide (x<=y)).map fun x=>⟨x.toArray⟩
def nl:ByteArray:=⟨#[10]⟩
def mV(text:ByteArray):List ByteArray:=
 Lib.splitB nl 0 (Lib.countB ⟨(Lib.trimSuffix text.data.toList [10]).toArray⟩ nl) ⟨(Lib.trimSuffix text.data.toList [10]).toArray⟩
def cK(text:ByteArray):List ByteArray:=if text.toList.isEmpty then[] else fI (mV text)
def gB(x:Int)(n:Nat):Nat:=(x % (n:Int)).toNat
def eR(order:List Int):Nat->Nat->List ByteArray->List ByteArray
 |0,_,_=>[]
 |f+1,u,left=>match left[gB (order.getD u 0) left.length]? with
  |none=>[]
  |some x=>x::eR order f (u+1) (left.eraseIdx (gB (order.getD u 0) left.length))
def joinB(l:List ByteArray):ByteArray:=⟨(Lib.join (l.map (·.data.toList)) []).toArray⟩
def pB(n:Int):ByteArray:=⟨(Lib.itoa n++[59]).toArray⟩
structure Tok where
 kind:Int
 text:ByteArray
 n:Int
 pos:Int
def jL(c:UInt8):Bool:=decide (c.toNat=32)||decide (c.toNat=9)||decide (c.toNat=10)
def jM(c:UInt8):Bool:=decide (97<=c.toNat)&&decide (c.toNat<=122)
def dL(c:UInt8):Bool:=decide (48<=c.toNat)&&decide (c.toNat<=57)
def lE(c:UInt8):Bool:=jM c||dL c
def dU(p:UInt8->Bool)(l:List UInt8):Nat:=(l.takeWhile p).length
def kJ(s:ByteArray)(n:Nat):ByteArray:=s.extract 0 n
def iN(s:ByteArray)(n:Nat):ByteArray:=s.extract n s.size
def kX(s:ByteArray):Bool:=match s.data.toList with
 |[]=>false
 |c::_=>jM c&&decide (s.size<=20)&&s.data.toList.all lE
def jY(l:List UInt8):Nat:=l.foldl (fun n c=>10*n+(c.toNat-48)) 0
def jV(s:ByteArray):Option Nat:=match s.data.toList with
 |[]=>none
 |c::_=>if s.data.toList.all dL&& !(decide (c.toNat=48)&&decide (s.size≠1))&&decide (s.size<=13)&&decide (jY s.data.toList<=1099511627776) then some (jY s.data.toList) else none
def gJ:List ByteArray:=[⟨#[61,61]⟩,⟨#[59]⟩,⟨#[44]⟩,⟨#[61]⟩,⟨#[60]⟩,⟨#[43]⟩,⟨#[45]⟩,⟨#[42]⟩,⟨#[46]⟩,⟨#[33]⟩,⟨#[40]⟩,⟨#[41]⟩,⟨#[123]⟩,⟨#[125]⟩]
def nS(s x:ByteArray):Bool:=x.data.toList.isPrefixOf s.data.toList
def gT(s:ByteArray):Except Int (Int×ByteArray×Int):=match s.data.toList with
 |[]=>.error 10
 |c::_=>
  if jM c then(if kX (kJ s (dU lE s.data.toList)) then .ok (0,kJ s (dU lE s.data.toList),0) else .error 12)
  else if dL c then(match jV (kJ s (dU dL s.data.toList)) with
   |some n=>.ok (1,kJ s (dU dL s.data.toList),n)
   |none=>.error 3)
  else match gJ.find? (nS s) with
   |some x=>.ok (2,x,0)
   |none=>.error 10
def iY(s:ByteArray):Nat->Nat->List Tok->Except (Int×Int) (List Tok)
 |0,_,out=>.ok out
 |f+1,i,out=>
  if i+dU jL (iN s i).data.toList=s.size then .ok (out++[⟨3,⟨#[]⟩,0,s.size⟩])
  else match gT (iN s (i+dU jL (iN s i).data.toList)) with
   | .error e=>.error ((i+dU jL (iN s i).data.toList:Nat),e)
   | .ok (k,t,n)=>iY s f (i+dU jL (iN s i).data.toList+t.size) (out++[⟨k,t,n,(i+dU jL (iN s i).data.toList:Nat)⟩])
def lexL(s:ByteArray):Except (Int×Int) (List Tok):=if 8000<s.size then .error (0,6) else iY s (s.size+1) 0 []
inductive Xp where
 |mk (op n:Int) (s m:ByteArray) (names:List ByteArray) (args:List Xp)
inductive Ty where
 |mk (kind:Int) (fields:List (ByteArray×Ty))
abbrev Fld:=ByteArray×Ty
structure Fnc where
 name:ByteArray
 pub:Bool
 params:List Fld
 result:Ty
 effects:Int
 body:Xp
structure Mdl where
 name:ByteArray
 uses:List ByteArray
 vars:List Fld
 init:List Xp
 funcs:List Fnc
 moves:Bool
 old:List Fld
 forward:List Xp
 back:List Xp
abbrev bs(l:List UInt8):ByteArray:=⟨l.toArray⟩
abbrev lI:ByteArray:=bs [32,97,110,100,32,98,97,99,107,32,98,111,111,108,32,99,108,111,99,107,32,101,108,115,101,32,102,97,108,115,101,32,102,105,108,101,115,32,102,110,32,102,111,114,119,97,114,100,32,103,101,116,32,105,102,32,105,110,32,105,110,116,32,108,101,116,32,109,111,100,117,108,101,32,109,111,118,101,32,110,101,116,32,110,111,116,32,111,114,32,112,117,98,32,115,101,99,114,101,116,115,32,115,101,116,32,116,104,101,110,32,116,114,117,101,32,117,115,101,32,118,97,114,32]
def aT(s:ByteArray):Bool:=kX s&& !Lib.contains lI.data.toList ((bs [32]++s)++bs [32]).data.toList
def dH(s:ByteArray):Int:=if s=bs [102,105,108,101,115] then 1 else if s=bs [110,101,116] then 2 else if s=bs [99,108,111,99,107] then 4 else if s=bs [115,101,99,114,101,116,115] then 8 else 0
abbrev PR(α:Type):=Except (Int×Int) (α×Nat)
def aH(l:List Tok)(i:Nat):Tok:=l.getD i ⟨3,⟨#[]⟩,0,0⟩
def kQ{α:Type}(l:List Tok)(i:Nat)(e:Int):PR α:=.error ((aH l i).pos,e)
def isP(l:List Tok)(i:Nat)(s:ByteArray):Bool:=decide ((aH l i).kind≠3)&&decide ((aH l i).text=s)
def dJ(l:List Tok)(i:Nat):Bool:=decide ((aH l i).kind=0)&&aT (aH l i).text
def dM(l:List Tok)(i:Nat)(s:ByteArray):PR Unit:=if isP l i s then .ok ((),i+1) else kQ l i 11
def nE(l:List Tok)(i:Nat)(fits:Bool)(s:ByteArray):PR Unit:=if isP l i s then(if fits then .ok ((),i+1) else kQ l i 6) else kQ l i 11
def gL(l:List Tok)(i:Nat):PR ByteArray:=if dJ l i then .ok ((aH l i).text,i+1) else kQ l i 11
def iQ(l:List Tok)(i:Nat)(aO:ByteArray->Bool):PR ByteArray:=if dJ l i then(if aO (aH l i).text then kQ l i 5 else .ok ((aH l i).text,i+1)) else kQ l i 11
def gtB(a b:ByteArray):Bool:= !(Op.bytesLess a.toList b.toList||a.toList==b.toList)
def gN(l:List Tok)(i:Nat)(than:ByteArray)(any:Bool):PR ByteArray:=
 if dJ l i then(if any&&decide ((aH l i).text=than) then kQ l i 5 else if any&& !gtB (aH l i).text than then kQ l i 12 else .ok ((aH l i).text,i+1)) else kQ l i 11
def iI(l:List Tok)(i:Nat)(have_ most:Nat):PR Unit:=if have_<most then .ok ((),i) else kQ l i 6
abbrev kIf:ByteArray:=bs [105,102]
abbrev kThen:ByteArray:=bs [116,104,101,110]
abbrev kElse:ByteArray:=bs [101,108,115,101]
abbrev kLet:ByteArray:=bs [108,101,116]
abbrev kEq:ByteArray:=bs [61]
abbrev kIn:ByteArray:=bs [105,110]
abbrev kSet:ByteArray:=bs [115,101,116]
abbrev kNot:ByteArray:=bs [110,111,116]
abbrev dW:ByteArray:=bs [116,114,117,101]
abbrev cY:ByteArray:=bs [102,97,108,115,101]
abbrev iZ:ByteArray:=bs [103,101,116]
abbrev cO:ByteArray:=bs [40]
abbrev lL:ByteArray:=bs [41]
abbrev cJ:ByteArray:=bs [123]
abbrev iK:ByteArray:=bs [125]
abbrev kDot:ByteArray:=bs [46]
abbrev bW:ByteArray:=bs [44]
abbrev lM:ByteArray:=bs [59]
abbrev kOr:ByteArray:=bs [111,114]
abbrev kAnd:ByteArray:=bs [97,110,100]
abbrev kEqEq:ByteArray:=bs [61,61]
abbrev kLess:ByteArray:=bs [60]
abbrev kPlus:ByteArray:=bs [43]
abbrev kMinus:ByteArray:=bs [45]
abbrev kStar:ByteArray:=bs [42]
abbrev kIntW:ByteArray:=bs [105,110,116]
abbrev kBool:ByteArray:=bs [98,111,111,108]
abbrev kModule:ByteArray:=bs [109,111,100,117,108,101]
abbrev kUse:ByteArray:=bs [117,115,101]
abbrev kVar:ByteArray:=bs [118,97,114]
abbrev kPub:ByteArray:=bs [112,117,98]
abbrev kFn:ByteArray:=bs [102,110]
abbrev kMove:ByteArray:=bs [109,111,118,101]
abbrev kForward:ByteArray:=bs [102,111,114,119,97,114,100]
abbrev kBack:ByteArray:=bs [98,97,99,107]
abbrev qL:ByteArray:=bs [33]
abbrev kFiles:ByteArray:=bs [102,105,108,101,115]
abbrev kNet:ByteArray:=bs [110,101,116]
abbrev kClock:ByteArray:=bs [99,108,111,99,107]
abbrev kSecrets:ByteArray:=bs [115,101,99,114,101,116,115]
abbrev noB:ByteArray:=⟨#[]⟩
def PR.bnd{α β:Type}(m:PR α)(k:α->Nat->PR β):PR β:=match m with
 | .error x=>.error x
 | .ok (a,j)=>k a j
def oL:List (ByteArray×Int×Nat):=[(kOr,9,1),(kAnd,8,2),(kEqEq,7,4),(kLess,6,4),(kPlus,3,5),(kMinus,4,5),(kStar,5,6)]
def operAt(l:List Tok)(i:Nat):Option (ByteArray×Int×Nat):=oL.find? fun o=>isP l i o.1
mutual
def cP:Xp->Nat
 | .mk _ _ _ _ _ args=>eS args+1
def eS:List Xp->Nat
 |[]=>0
 |x::r=>max (cP x) (eS r)
end
mutual
def cF:Ty->Nat
 | .mk _ fields=>dB fields+1
def dB:List (ByteArray×Ty)->Nat
 |[]=>0
 |(_,t)::r=>max (cF t) (dB r)
end
abbrev RecP:=Nat->Nat->PR Xp
section
variable (l:List Tok) (rec:RecP)
def pO:Nat->Xp->Nat->PR Xp
 |0,e,i=>.ok (e,i)
 |f+1,e,i=>if isP l i kDot then(gL l (i+1)).bnd fun s j=>pO f (.mk 14 0 s noB [] [e]) j else .ok (e,i)
def opsP(form:Nat):Nat->Nat->Xp->Nat->PR Xp
 |0,_,e,i=>.ok (e,i)
 |f+1,own,e,i=>match operAt l i with
  |none=>.ok (e,i)
  |some (_,op,fm)=>if fm<form\/own<fm\/(own=4/\fm=4) then .ok (e,i)
   else(rec (fm+1) (i+1)).bnd fun b j=>opsP form f fm (.mk op 0 noB noB [] [e,b]) j
def gV(i:Nat):Bool:=isP l i kDot&&decide (i+2<l.length)&&decide ((aH l (i+1)).kind=0)&&aT (aH l (i+1)).text&&decide ((aH l (i+2)).kind=2)&&decide ((aH l (i+2)).text=cO)
def jB(i:Nat):Bool:=
 if(aH l i).kind=1 then true
 else if(aH l i).kind=2 then decide ((aH l i).text=cO)||decide ((aH l i).text=cJ)
 else if(aH l i).kind=3 then false
 else([kIf,kLet,kSet,kNot,dW,cY,iZ].any fun s=>decide ((aH l i).text=s))||decide (dH (aH l i).text≠0)||aT (aH l i).text
def cT:Nat->List Xp->Nat->PR (List Xp)
 |0,out,i=>.ok (out,i)
 |f+1,out,i=>(if jB l i then iI l i out.length 6 else .ok ((),i)).bnd fun _ _=>(rec 0 i).bnd fun e j=>
  if isP l j bW then cT f (out++[e]) (j+1) else(dM l j lL).bnd fun _ k=>.ok (out++[e],k)
def kF(i:Nat):PR (List Xp):=(dM l i cO).bnd fun _ j=>if isP l j lL then .ok ([],j+1) else cT l rec (l.length+1) [] j
def dY:Nat->List ByteArray->List Xp->ByteArray->Nat->PR Xp
 |0,names,args,_,i=>.ok (.mk 13 0 noB noB names args,i)
 |f+1,names,args,last,i=>(if dJ l i then iI l i names.length 8 else .ok ((),i)).bnd fun _ _=>(gN l i last (decide (0<names.length))).bnd fun s j=>(dM l j kEq).bnd fun _ j2=>(rec 0 j2).bnd fun e j3=>
  if isP l j3 bW then dY f (names++[s]) (args++[e]) s (j3+1) else(dM l j3 iK).bnd fun _ k=>.ok (.mk 13 0 noB noB (names++[s]) (args++[e]),k)
def lX(i:Nat):PR Xp:=if isP l i iK then .ok (.mk 13 0 noB noB [] [],i+1) else dY l rec (l.length+1) [] [] noB i
def callP(s:ByteArray)(j:Nat):PR Xp:=
 if isP l j cO then(kF l rec j).bnd fun as k=>.ok (.mk 15 0 s noB [] as,k)
 else if gV l j then(gL l (j+1)).bnd fun f k=>(kF l rec k).bnd fun as k2=>.ok (.mk 15 0 f s [] as,k2)
 else .ok (.mk 2 0 s noB [] [],j)
def parenP(i:Nat):PR Xp:=(rec 0 i).bnd fun e j=>(dM l j lL).bnd fun _ k=>.ok (e,k)
def aY(i:Nat):PR Xp:=
 if(aH l i).kind=1 then .ok (.mk 0 (aH l i).n noB noB [] [],i+1)
 else if isP l i dW then .ok (.mk 1 1 noB noB [] [],i+1)
 else if isP l i cY then .ok (.mk 1 0 noB noB [] [],i+1)
 else if isP l i iZ then(gL l (i+1)).bnd fun s j=>.ok (.mk 17 0 s noB [] [],j)
 else if(aH l i).kind=0/\dH (aH l i).text≠0 then(dM l (i+1) cO).bnd fun _ j=>(parenP l rec j).bnd fun e k=>.ok (.mk 16 (dH (aH l i).text) noB noB [] [e],k)
 else if isP l i cJ then lX l rec (i+1)
 else if isP l i cO then parenP l rec (i+1)
 else(gL l i).bnd fun s j=>callP l rec s j
def cZ(form i:Nat):PR (Xp×Nat):=
 if form=0/\isP l i kIf=true then(rec 0 (i+1)).bnd fun a j=>(dM l j kThen).bnd fun _ j2=>(rec 0 j2).bnd fun b j3=>(dM l j3 kElse).bnd fun _ j4=>(rec 0 j4).bnd fun c j5=>.ok ((.mk 11 0 noB noB [] [a,b,c],0),j5)
 else if form=0/\isP l i kLet=true then(gL l (i+1)).bnd fun s j=>(dM l j kEq).bnd fun _ j2=>(rec 0 j2).bnd fun a j3=>(dM l j3 kIn).bnd fun _ j4=>(rec 0 j4).bnd fun b j5=>.ok ((.mk 12 0 s noB [] [a,b],0),j5)
 else if form=0/\isP l i kSet=true then(gL l (i+1)).bnd fun s j=>(rec 0 j).bnd fun a j2=>.ok ((.mk 18 0 s noB [] [a],0),j2)
 else if form<=3/\isP l i kNot=true then(rec 3 (i+1)).bnd fun a j=>.ok ((.mk 10 0 noB noB [] [a],3),j)
 else(aY l rec i).bnd fun e j=>.ok ((e,8),j)
end
def bZ(l:List Tok):Nat->RecP
 |0,_,i=>kQ l i 11
 |f+1,form,i=>(cZ l (bZ l f) form i).bnd fun r j=>
  (if 7<=r.2 then pO l (l.length+1) r.1 j else .ok (r.1,j)).bnd fun e k=>opsP l (bZ l f) form (l.length+1) r.2 e k
def expAllP(l:List Tok)(form i:Nat):PR Xp:=bZ l (l.length+1) form i
section
variable (l:List Tok)
def moreP(i:Nat)(t:Ty)(e:ByteArray):PR Bool:=if isP l i bW then(nE l i (decide (cF t<=4)) bW).bnd fun _ j=>.ok (false,j) else(nE l i (decide (cF t<=4)) e).bnd fun _ j=>.ok (true,j)
def fE(rec:Nat->PR Ty):Nat->List Fld->Nat->PR Ty
 |0,fs,i=>.ok (.mk 2 fs,i)
 |f+1,fs,i=>(if dJ l i then iI l i fs.length 8 else .ok ((),i)).bnd fun _ _=>(gN l i ((fs.getLast?.map (·.1)).getD noB) (decide (0<fs.length))).bnd fun s j=>(rec j).bnd fun t j2=>(moreP l j2 t iK).bnd fun q j3=>
  if q then .ok (.mk 2 (fs++[(s,t)]),j3) else fE rec f (fs++[(s,t)]) j3
def gH:Nat->Nat->PR Ty
 |0,i=>kQ l i 11
 |f+1,i=>if isP l i kIntW then .ok (.mk 0 [],i+1) else if isP l i kBool then .ok (.mk 1 [],i+1)
  else(dM l i cJ).bnd fun _ j=>if isP l j iK then .ok (.mk 2 [],j+1) else fE l (gH f) (l.length+1) [] j
def lG(i:Nat):PR Ty:=gH l (l.length+1) i
def eI(most:Nat):Nat->List Fld->Nat->PR (List Fld)
 |0,fs,i=>.ok (fs,i)
 |f+1,fs,i=>(if dJ l i then iI l i fs.length most else .ok ((),i)).bnd fun _ _=>(iQ l i (fun s=>fs.any fun x=>decide (x.1=s))).bnd fun s j=>(lG l j).bnd fun t j2=>(moreP l j2 t lL).bnd fun q j3=>
  if q then .ok (fs++[(s,t)],j3) else eI most f (fs++[(s,t)]) j3
def kS(most i:Nat):PR (List Fld):=(dM l i cO).bnd fun _ j=>if isP l j lL then .ok ([],j+1) else eI l most (l.length+1) [] j
def nB(i:Nat)(e:ByteArray):PR Xp:=(expAllP l 0 i).bnd fun x j=>(nE l j (decide (cP x<=12)) e).bnd fun _ k=>.ok (x,k)
def jQ(e:ByteArray):Nat->List Xp->Nat->PR (List Xp)
 |0,out,i=>(nB l i e).bnd fun x j=>.ok (out++[x],j)
 |n+1,out,i=>(nB l i bW).bnd fun x j=>jQ e n (out++[x]) j
def iU(n i:Nat)(e:ByteArray):PR (List Xp):=match n with
 |0=>(dM l i e).bnd fun _ j=>.ok ([],j)
 |n+1=>jQ l e n [] i
def eO:List (ByteArray×Int)->Int->Nat->Int×Nat
 |[],n,i=>(n,i)
 |(s,b)::r,n,i=>if isP l i s then eO r (n+b) (i+1) else eO r n i
def gU:List (ByteArray×Int):=[(kFiles,1),(kNet,2),(kClock,4),(kSecrets,8)]
def bangP(i:Nat)(fits:Bool):PR (Int×Bool):=if isP l i qL then(nE l i fits qL).bnd fun _ j=>if(eO l gU 0 j).1≠0 then .ok (((eO l gU 0 j).1,true),(eO l gU 0 j).2) else kQ l (eO l gU 0 j).2 11 else .ok ((0,fits),i)
def nW(i:Nat)(aO:ByteArray->Bool):PR Fnc:=
 (dM l (if isP l i kPub then i+1 else i) kFn).bnd fun _ j=>(iQ l j aO).bnd fun name j2=>(kS l 6 j2).bnd fun ps j3=>(lG l j3).bnd fun t j4=>(bangP l j4 (decide (cF t<=4))).bnd fun ef j5=>
  (nE l j5 ef.2 kEq).bnd fun _ j6=>(nB l j6 lM).bnd fun e j7=>.ok (⟨name,isP l i kPub,ps,t,ef.1,e⟩,j7)
def jC:Nat->List ByteArray->Nat->PR (List ByteArray)
 |0,out,i=>.ok (out,i)
 |f+1,out,i=>if isP l i kUse then(iI l i out.length 12).bnd fun _ _=>(iQ l (i+1) (fun s=>out.any fun x=>decide (x=s))).bnd fun s j=>(dM l j lM).bnd fun _ k=>jC f (out++[s]) k else .ok (out,i)
def jR:Nat->List Fld->List Xp->Nat->PR (List Fld×List Xp)
 |0,vs,es,i=>.ok ((vs,es),i)
 |f+1,vs,es,i=>if isP l i kVar then(iI l i vs.length 8).bnd fun _ _=>(iQ l (i+1) (fun s=>vs.any fun x=>decide (x.1=s))).bnd fun s j=>(lG l j).bnd fun t j2=>(nE l j2 (decide (cF t<=4)) kEq).bnd fun _ j3=>(nB l j3 lM).bnd fun e k=>jR f (vs++[(s,t)]) (es++[e]) k else .ok ((vs,es),i)
def hJ:Nat->List Fnc->Nat->PR (List Fnc)
 |0,fs,i=>.ok (fs,i)
 |f+1,fs,i=>if isP l i kPub||isP l i kFn then(iI l i fs.length 30).bnd fun _ _=>(nW l i (fun s=>fs.any fun x=>decide (x.name=s))).bnd fun x k=>hJ f (fs++[x]) k else .ok (fs,i)
def moveP(n i:Nat):PR (Bool×List Fld×List Xp×List Xp):=if isP l i kMove then(kS l 8 (i+1)).bnd fun old j=>(dM l j kForward).bnd fun _ j2=>(iU l n j2 kBack).bnd fun fw j3=>(iU l old.length j3 lM).bnd fun bk k=>.ok ((true,old,fw,bk),k) else .ok ((false,[],[],[]),i)
def iC:PR Mdl:=(dM l 0 kModule).bnd fun _ i=>(gL l i).bnd fun name i2=>(dM l i2 lM).bnd fun _ i3=>(jC l (l.length+1) [] i3).bnd fun us i4=>(jR l (l.length+1) [] [] i4).bnd fun ve i5=>
 (hJ l (l.length+1) [] i5).bnd fun fs i6=>(moveP l ve.1.length i6).bnd fun mv i7=>if(aH l i7).kind=3 then .ok (⟨name,us,ve.1,ve.2,fs,mv.1,mv.2.1,mv.2.2.1,mv.2.2.2⟩,i7) else kQ l i7 11
end
def oJ(s:ByteArray):Except (Int×Int) Mdl:=match lexL s with
 | .error e=>.error e
 | .ok l=>match iC l with
  | .error e=>.error e
  | .ok (m,_)=>.ok m
end Go.Proofs.YtacgopankhpnbaaGreatDoor
namespace Go.Proofs.YtacgopankhpnbaaGreatDoor
def jF(p:Ty->Bool):Option ByteArray->List Fld->Bool
 |_,[]=>true
 |before,(n,t)::r=>aT n&&(match before with|none=>true|some b=>gtB n b)&&p t&&jF p (some n) r
def cI:Nat->Ty->Bool
 |0,_=>false
 |d+1,.mk k fs=>decide (0<=k)&&decide (k<3)&&decide (fs.length<=8)&&(decide (k=2)||decide (fs.length=0))&&jF (cI d) none fs
def cleanX:Xp->(Int×ByteArray×ByteArray×List ByteArray)×Int
 | .mk op n s m names _=>
  if op=0\/op=1 then((n,noB,noB,[]),0)
  else if op=2\/op=17 then((0,s,noB,[]),0)
  else if op=18\/op=14 then((0,s,noB,[]),1)
  else if op=16 then((n,noB,noB,[]),1)
  else if op=10 then((0,noB,noB,[]),1)
  else if op=12 then((0,s,noB,[]),2)
  else if op=11 then((0,noB,noB,[]),3)
  else if op=13 then((0,noB,noB,names),names.length)
  else if op=15 then((0,s,m,[]),-1)
  else((0,noB,noB,[]),2)
def pK:Option ByteArray->List ByteArray->Bool
 |_,[]=>true
 |before,n::r=>aT n&&(match before with|none=>true|some b=>gtB n b)&&pK (some n) r
def eW:Xp->Bool
 | .mk op n s m names args=>
  if op=0 then decide (0<=n)&&decide (n<=1099511627776)
  else if op=1 then decide (n=0)||decide (n=1)
  else if op=16 then decide (n=1)||decide (n=2)||decide (n=4)||decide (n=8)
  else if op=2\/op=17\/op=18\/op=14\/op=12 then aT s
  else if op=15 then aT s&&(decide (m=noB)||aT m)&&decide (args.length<=6)
  else if op=13 then pK none names&&decide (names.length<=8)
  else true
def aZ:Nat->Xp->Bool
 |0,_=>false
 |d+1,.mk op n s m names args=>
  decide (0<=op)&&decide (op<19)&&
  (decide ((cleanX (.mk op n s m names args)).2<0)||decide ((cleanX (.mk op n s m names args)).2=args.length))&&
  decide ((cleanX (.mk op n s m names args)).1.1=n)&&decide ((cleanX (.mk op n s m names args)).1.2.1=s)&&decide ((cleanX (.mk op n s m names args)).1.2.2.1=m)&&
  decide ((cleanX (.mk op n s m names args)).1.2.2.2.length=names.length)&&eW (.mk op n s m names args)&&args.all (aZ d)
def dI:List Fld->List ByteArray->Bool
 |[],_=>true
 |(n,t)::r,aO=>if(aO.any fun x=>decide (x=n))|| !aT n|| !cI 4 t then false else dI r (n::aO)
def eD(l:List Fld)(most:Nat):Bool:=dI l []&&decide (l.length<=most)
def fX(l:List Xp)(n:Nat):Bool:=l.all (aZ 12)&&decide (l.length=n)
def gF:List ByteArray->List ByteArray->Bool
 |[],_=>true
 |n::r,aO=>if(aO.any fun x=>decide (x=n))|| !aT n then false else gF r (n::aO)
def effOk(e:Int):Bool:=decide (Go.bits .andNot .i64 e 15=0)
def pG(f:Fnc):Bool:=eD f.params 6&&cI 4 f.result&&aZ 12 f.body&&effOk f.effects
def eH:List Fnc->List ByteArray->Bool
 |[],_=>true
 |f::r,aO=>if(aO.any fun x=>decide (x=f.name))|| !aT f.name|| !pG f then false else eH r (f.name::aO)
def rightM(m:Mdl):Bool:=
 gF m.uses []&&eH m.funcs []&&aT m.name&&decide (m.uses.length<=12)&&decide (m.funcs.length<=30)&&eD m.vars 8&&fX m.init m.vars.length&&
 (m.moves||decide (m.old.length=0))&&eD m.old 8&&fX m.forward (if m.moves then m.vars.length else 0)&&fX m.back m.old.length
structure Ins where
 op:Int
 a:Int
 s:ByteArray
 m:ByteArray
 names:List ByteArray
structure Cod where
 name:ByteArray
 params:Nat
 locals:Nat
 code:List Ins
structure Cmp where
 code:List Ins
 locals:Nat
def Cmp.put(c:Cmp)(i:Ins):Cmp:=⟨c.code++[i],c.locals⟩
def Cmp.fix(c:Cmp)(k:Nat):Cmp:=⟨c.code.modify k (fun i=>{i with a:=c.code.length}),c.locals⟩
def eB(names:List ByteArray)(s:ByteArray):Int:=match names with
 |[]=> -1
 |x::r=>if 0<=eB r s then eB r s+1 else if x=s then 0 else -1
def jS(vars:List ByteArray)(s:ByteArray):Int:=match vars.findIdx? (fun x=>decide (x=s)) with
 |some k=>k
 |none=> -1
def ins(op a:Int):Ins:=⟨op,a,noB,noB,[]⟩
def gA(vars:List ByteArray):Xp->Ins
 | .mk op n s m names args=>
  if op=3 then ins 4 0 else if op=4 then ins 5 0 else if op=5 then ins 6 0 else if op=6 then ins 7 0 else if op=7 then ins 8 0 else if op=10 then ins 9 0
  else if op=13 then⟨12,0,noB,noB,names⟩
  else if op=14 then⟨13,0,s,noB,[]⟩
  else if op=15 then⟨14,args.length,s,m,[]⟩
  else if op=16 then ins 15 n
  else ins 17 (jS vars s)
def iF(yes no:Cmp->Cmp)(c:Cmp):Cmp:=
 let c2:=yes (c.put (ins 11 0));let c3:=(c2.put (ins 10 0)).fix c.code.length
 (no c3).fix c2.code.length
def bH(vars:List ByteArray):Nat->List ByteArray->Xp->Cmp->Cmp
 |0,_,_,c=>c
 |d+1,names,.mk op n s m ns args,c=>
  if op=0 then c.put (ins 0 n)
  else if op=1 then c.put (ins 1 n)
  else if op=2 then c.put (ins 2 (eB names s))
  else if op=17 then c.put (ins 16 (jS vars s))
  else if op=8 then match args with
   |[x,y]=>iF (bH vars d names y) (fun c=>c.put (ins 1 0)) (bH vars d names x c)
   |_=>c
  else if op=9 then match args with
   |[x,y]=>iF (fun c=>c.put (ins 1 1)) (bH vars d names y) (bH vars d names x c)
   |_=>c
  else if op=11 then match args with
   |[x,y,z]=>iF (bH vars d names y) (bH vars d names z) (bH vars d names x c)
   |_=>c
  else if op=12 then match args with
   |[x,y]=>
    let c1:=(bH vars d names x c).put (ins 3 names.length)
    bH vars d (names++[s]) y ⟨c1.code,max c1.locals (names.length+1)⟩
   |_=>c
  else(args.foldl (fun c x=>bH vars d names x c) c).put (gA vars (.mk op n s m ns args))
def compF(vars:List ByteArray)(f:Fnc):Cod:=
 let c:=(bH vars 12 (f.params.map (·.1)) f.body ⟨[],f.params.length⟩).put (ins 18 0)
 ⟨f.name,f.params.length,c.locals,c.code⟩
def jZ(m:Mdl):List Cod:=if rightM m then m.funcs.map (compF (m.vars.map (·.1))) else[]
def oV:Option ByteArray->List ByteArray->Bool
 |_,[]=>true
 |before,n::r=>aT n&&(match before with|none=>true|some b=>Op.bytesLess b.toList n.toList)&&oV (some n) r
def bN(c:Cod)(i:Ins):Bool:=
 let none_:=decide (i.names.length=0);let noS:=decide (i.s=noB);let noM:=decide (i.m=noB);let noA:=decide (i.a=0)
 if i.op=0 then noS&&noM&&none_
 else if i.op=1 then(decide (i.a=0)||decide (i.a=1))&&noS&&noM&&none_
 else if i.op=2\/i.op=3 then(decide (0<=i.a)&&decide (i.a<c.locals))&&noS&&noM&&none_
 else if i.op=10\/i.op=11 then(decide (0<=i.a)&&decide (i.a<c.code.length))&&noS&&noM&&none_
 else if i.op=16\/i.op=17 then(decide (0<=i.a)&&decide (i.a<8))&&noS&&noM&&none_
 else if i.op=15 then(decide (i.a=1)||decide (i.a=2)||decide (i.a=4)||decide (i.a=8))&&noS&&noM&&none_
 else if i.op=13 then aT i.s&&noA&&noM&&none_
 else if i.op=14 then(decide (0<=i.a)&&decide (i.a<=6)&&aT i.s&&(decide (i.m=noB)||aT i.m))&&none_
 else if i.op=12 then(oV none i.names&&decide (i.names.length<=8))&&noA&&noS&&noM
 else if i.op=4\/i.op=5\/i.op=6\/i.op=7\/i.op=8\/i.op=9\/i.op=18\/i.op=19 then noA&&noS&&noM&&none_
 else false
def dQ(i:Ins):Int×Int:=
 if i.op=0\/i.op=1\/i.op=2\/i.op=16 then(0,1)
 else if i.op=4\/i.op=5\/i.op=6\/i.op=7\/i.op=8 then(2,1)
 else if i.op=9\/i.op=13\/i.op=15\/i.op=17 then(1,1)
 else if i.op=12 then(i.names.length,1)
 else if i.op=14 then(i.a,1)
 else if i.op=10 then(0,0)
 else(1,0)
def kU(i:Ins)(k:Int):List Int:=
 if i.op=18 then[] else if i.op=10 then[i.a] else if i.op=11 then[k+1,i.a] else[k+1]
def oQ(l:List Ins)(k:Nat):Ins:=l.getD k ⟨19,0,noB,noB,[]⟩
def iH(n:Nat)(h:Int):List Int->List Int->List Int->Option (List Int×List Int)
 |[],out,todo=>some (out,todo)
 |k::r,out,todo=>
  if k=n then none
  else if out.getD k.toNat 0<0 then iH n h r (out.set k.toNat h) (todo++[k])
  else if out.getD k.toNat 0≠h then none
  else iH n h r out todo
def eN(l:List Ins):Nat->List Int->List Int->Option (List Int)
 |0,out,_=>some out
 |_+1,out,[]=>some out
 |f+1,out,k::todo=>
  if out.getD k.toNat 0<(dQ (oQ l k.toNat)).1\/((oQ l k.toNat).op=18/\out.getD k.toNat 0≠1) then none
  else match iH l.length (out.getD k.toNat 0-(dQ (oQ l k.toNat)).1+(dQ (oQ l k.toNat)).2) (kU (oQ l k.toNat) k) out todo with
   |none=>none
   |some (out2,todo2)=>eN l f out2 todo2
def dP(c:Cod):Bool:=
 aT c.name&&decide (c.params<=6)&&decide (c.params<=c.locals)&&decide (c.code.length≠0)&&c.code.all (bN c)&&
 (eN c.code (c.code.length+1) ((List.replicate c.code.length (-1:Int)).set 0 0) [0]).isSome
def mC(n:Int):List UInt8:=Lib.itoa n
def eV:List (List UInt8):=[[105,110,116],[98,111,111,108],[108,111,97,100],[115,116,111,114,101],[97,100,100],[115,117,98],[109,117,108],[108,101,115,115],[101,113],[110,111,116],[106,117,109,112],[102,97,108,115,101],[114,101,99],[102,105,101,108,100],[99,97,108,108],[97,99,116],[103,101,116],[115,101,116],[114,101,116,117,114,110],[112,111,112]]
def cV(i:Ins):List UInt8:=
 eV.getD i.op.toNat []++
 (if i.op=13 then[32]++i.s.data.toList
 else if i.op=14 then[32]++(if i.m=noB then[46] else i.m.data.toList)++[32]++i.s.data.toList++[32]++mC i.a
 else if i.op=12 then i.names.flatMap (fun x=>[32]++x.data.toList)
 else if i.op=4\/i.op=5\/i.op=6\/i.op=7\/i.op=8\/i.op=9\/i.op=18\/i.op=19 then[]
 else[32]++mC i.a)++[10]
def codL(c:Cod):List UInt8:=[102,117,110,99,32]++c.name.data.toList++[32]++mC c.params++[32]++mC c.locals++[10]++c.code.flatMap cV
def listC(l:List Cod):ByteArray:=if l.all dP then⟨(l.flatMap codL).toArray⟩ else noB
def bJ(s:ByteArray):Int×ByteArray:=match oJ s with
 | .error (_,e)=>(e,noB)
 | .ok m=>(0,listC (jZ m))
def stampB(t:ByteArray)(n:Int):ByteArray:=(t++pB n)++⟨#[10]⟩
def aS(s:Stp)(saw:List ByteArray)(clock order:List Int)(u0 u1:Int):ByteArray×List ByteArray×Int×Int:=
 if s.kind=0\/s.kind=1 then(joinB saw,saw,u0,u1)
 else if s.kind=3 then(rowsB (cK (saw.headD ByteArray.empty)),saw,u0,u1)
 else if s.kind=4 then(stampB (saw.headD ByteArray.empty) (clock.getD u0.toNat 0),saw,u0+1,u1)
 else if s.sorted then(rowsB (fI s.src),[],u0,u1)
 else(rowsB (eR order s.src.length u1.toNat (fI s.src)),[],u0,u1+s.src.length)
abbrev DoRes:=Except Int (ByteArray×List ByteArray×Int×Int)
def eT(files:List Fil):List ByteArray->Option (List ByteArray)
 |[]=>some []
 |x::r=>match aI files x,eT files r with
  |some t,some l=>some (t::l)
  |_,_=>none
def aX(C:ByteArray->Int×ByteArray)(s:Stp)(files:List Fil)(clock order:List Int)(u0 u1:Int):DoRes:=
 if !aP s|| !aR files||decide (min u0 u1<0) then .error 1
 else if(aI files s.out).isSome then .error 5
 else if 60<=files.length then .error 6
 else match eT files s.src with
  |none=>.error 4
  |some saw=>
   if s.kind=5 then
    if(C (saw.headD ByteArray.empty)).1≠0 then .error (C (saw.headD ByteArray.empty)).1
    else if 65536<(C (saw.headD ByteArray.empty)).2.size then .error 6
    else .ok ((C (saw.headD ByteArray.empty)).2,saw,u0,u1)
   else if 65536<(aS s saw clock order u0 u1).1.size then .error 6
   else .ok (aS s saw clock order u0 u1)
def cG(s:Stp)(files:List Fil)(text:ByteArray):List Fil:=files++[⟨s.out,text⟩]
structure Rcp where
 inputs:List Fil
 steps:List Stp
 output:ByteArray
def bR(steps:List Stp)(x:ByteArray):Option Nat:=steps.findIdx? fun s=>decide (s.out=x)
def kR(inputs:List Fil)(x:ByteArray):Bool:=inputs.any fun f=>decide (f.name=x)
def nN(r:Rcp)(k:Nat)(x:ByteArray):Bool:=(bR (r.steps.take k) x).isSome||kR r.inputs x
def aO(r:Rcp)(x:ByteArray):Bool:=(bR r.steps x).isSome||kR r.inputs x
def fB(steps:List Stp)(s:Stp):List Nat:=s.src.filterMap (bR steps)
def bK(steps:List Stp)(i:Nat):List Nat:=match steps[i]? with
 |some s=>fB steps s
 |none=>[]
def lH(r:Rcp):Nat->Nat->Bool
 |_,0=>false
 |k,n+1=>(match r.steps[k]? with
  |some s=>nN r k s.out
  |none=>false)||lH r (k+1) n
def twice(r:Rcp):Bool:=lH r 0 r.steps.length
abbrev fD:=Nat->Int
def kH(st:fD)(i:Nat)(x:Int):fD:=fun j=>if j=i then x else st j
def lD{σ:Type}(g:σ->Nat->σ×Bool):σ->List Nat->σ×Bool
 |st,[]=>(st,false)
 |st,k::r=>if(g st k).2 then((g st k).1,true) else lD g (g st k).1 r
def gD(needs:Nat->List Nat):Nat->fD->Nat->fD×Bool
 |0,st,_=>(st,true)
 |f+1,st,i=>
  if st i≠0 then(st,decide (st i=1))
  else if(lD (gD needs f) (kH st i 1) (needs i)).2 then((lD (gD needs f) (kH st i 1) (needs i)).1,true)
  else(kH (lD (gD needs f) (kH st i 1) (needs i)).1 i 2,false)
def kA(needs:Nat->List Nat)(f:Nat):Nat->Nat->fD->Bool
 |_,0,_=>false
 |k,n+1,st=>(gD needs f st k).2||kA needs f (k+1) n (gD needs f st k).1
def kL(steps:List Stp):Bool:=kA (bK steps) (steps.length+1) 0 steps.length (fun _=>0)
def bC(r:Rcp):Int:=
 if !aR r.inputs||decide (60<r.steps.length)||r.steps.any (fun s=> !aP s) then 1
 else if twice r then 5
 else if 60<r.inputs.length+r.steps.length then 6
 else if !aO r r.output||r.steps.any (fun s=>s.src.any fun x=> !aO r x) then 4
 else if kL r.steps then 15
 else 0
def jP(steps:List Stp)(done:Nat->Bool)(i:Nat):Bool:= !done i&& !(bK steps i).any fun k=> !done k
def bG(steps:List Stp)(done:Nat->Bool):List Nat:=(List.range steps.length).filter (jP steps done)
theorem kG(st:fD)(i:Nat)(x:Int):kH st i x i=x:=by simp[kH]
theorem fF(st:fD){i j:Nat}(x:Int)(h:j≠i):kH st i x j=st j:=by simp[kH,h]
theorem oW{g:fD->Nat->fD×Bool}(hg:∀st k j,st j≠0->(g st k).1 j=st j):∀(l:List Nat)(st:fD)(j:Nat),st j≠0->(lD g st l).1 j=st j
 |[],_,_,_=>rfl
 |k::r,st,j,h=>by
  rw[lD];have h1:=hg st k j h;split
  ·exact h1
  ·rw[oW hg r _ j (by rw[h1];exact h),h1]
theorem lF(needs:Nat->List Nat):∀(f:Nat)(st:fD)(i j:Nat),st j≠0->(gD needs f st i).1 j=st j
 |0,_,_,_,_=>rfl
 |f+1,st,i,j,h=>by
  rw[gD];split
  ·rfl
  ·rename_i hi;have hij:j≠i:=fun e=>hi (e▸h);have h1:kH st i 1 j=st j:=fF st 1 hij;have h2:=oW (lF needs f) (needs i) (kH st i 1) j (by rw[h1];exact h);split
   ·rw[h2,h1]
   ·show kH _ i 2 j=st j;rw[fF _ _ hij,h2,h1]
def kN(st:fD):Nat->Nat
 |0=>0
 |n+1=>kN st n+if st n=0 then 1 else 0
def pot(st:fD):Nat->Nat
 |0=>0
 |n+1=>pot st n+if st n=0 then 2 else if st n=1 then 1 else 0
theorem zeros_le{st st':fD}(h:∀j,st j≠0->st' j≠0):∀n,kN st' n<=kN st n
 |0=>Nat.le_refl _
 |n+1=>by
  have:=zeros_le h n;rw[kN,kN];by_cases e:st n=0
  ·rw[if_pos e];split<;>omega
  ·rw[if_neg e,if_neg (h n e)];omega
theorem zeros_out(st:fD){i:Nat}(x:Int):∀n,n<=i->kN (kH st i x) n=kN st n
 |0,_=>rfl
 |n+1,h=>by rw[kN,kN,zeros_out st x n (by omega),fF st x (by omega)]
theorem zeros_mark{st:fD}{i:Nat}(h0:st i=0):∀n,i<n->kN (kH st i 1) n+1=kN st n
 |0,h=>absurd h (by omega)
 |n+1,h=>by
  rw[kN,kN];by_cases e:i=n
  ·subst e;rw[zeros_out st 1 i (Nat.le_refl _),kG,h0];simp
  ·have:=zeros_mark h0 n (by omega);rw[fF st 1 (by omega)];split<;>omega
theorem pot_out(st:fD){i:Nat}(x:Int):∀n,n<=i->pot (kH st i x) n=pot st n
 |0,_=>rfl
 |n+1,h=>by rw[pot,pot,pot_out st x n (by omega),fF st x (by omega)]
theorem pot_mark{st:fD}{i:Nat}{x:Int}(h:(st i=0/\x=1)\/(st i=1/\x=2)):∀n,i<n->pot (kH st i x) n+1=pot st n
 |0,h=>absurd h (by omega)
 |n+1,hn=>by
  rw[pot,pot];by_cases e:i=n
  ·subst e;rw[pot_out st x i (Nat.le_refl _),kG];rcases h with⟨h,rfl⟩|⟨h,rfl⟩<;>rw[h]<;>simp
  ·have:=pot_mark h n (by omega);rw[fF st x (by omega)];split
   ·omega
   ·split<;>omega
theorem pot_new:∀n,pot (fun _=>0) n=2*n
 |0=>rfl
 |n+1=>by rw[pot,pot_new n];simp;omega
theorem visit_zeros(needs:Nat->List Nat)(f:Nat)(st:fD)(i n:Nat):kN (gD needs f st i).1 n<=kN st n:=
 zeros_le (fun j h=>by rw[lF needs f st i j h];exact h) n
theorem needsOf_lt{steps:List Stp}{s:Stp}{j:Nat}(h:j∈fB steps s):j<steps.length:=by
 unfold fB at h;obtain⟨x,-,hx⟩:=List.mem_filterMap.1 h;unfold bR at hx;exact(List.findIdx?_eq_some_iff_getElem.1 hx).1
theorem oO{steps:List Stp}{i j:Nat}(h:j∈bK steps i):j<steps.length:=by
 unfold bK at h;split at h
 ·exact needsOf_lt h
 ·cases h
structure Dn where
 step:Int
 saw:List ByteArray
 out:ByteArray
def eC(l:List Nat)(next:List Int)(u:Nat):Nat:=l.getD (gB (next.getD u 0) l.length) 0
def kM(done:Nat->Bool)(i:Nat):Nat->Bool:=fun j=>if j=i then true else done j
def gS(C:ByteArray->Int×ByteArray)(steps:List Stp)(clock order next:List Int):Nat->(Nat->Bool)->List Dn->List Fil->Int->Int->Except Int (List Dn×List Fil)
 |0,_,out,files,_,_=>.ok (out,files)
 |f+1,done,out,files,u0,u1=>
  if(bG steps done).isEmpty then .ok (out,files)
  else match steps[eC (bG steps done) next out.length]? with
   |none=>.ok (out,files)
   |some s=>match aX C s files clock order u0 u1 with
    | .error e=>.error e
    | .ok (text,saw,a,b)=>gS C steps clock order next f (kM done (eC (bG steps done) next out.length)) (out++[⟨eC (bG steps done) next out.length,saw,text⟩]) (cG s files text) a b
def oF(C:ByteArray->Int×ByteArray)(r:Rcp)(clock order next:List Int):Except Int (List Dn×List Fil):=
 gS C r.steps clock order next (r.steps.length+1) (fun _=>false) [] r.inputs 0 0
def pR(C:ByteArray->Int×ByteArray)(r:Rcp)(clock order next:List Int):Except Int (List Dn×ByteArray):=
 if bC r≠0 then .error (bC r)
 else match oF C r clock order next with
  | .error e=>.error e
  | .ok (out,files)=>.ok (out,(aI files r.output).getD ByteArray.empty)
def kD(steps:List Stp):Nat->(Nat->Bool)->List Nat->List Nat
 |0,_,out=>out
 |f+1,done,out=>match bG steps done with
  |[]=>out
  |i::_=>kD steps f (kM done i) (out++[i])
def oK(steps:List Stp):List Nat:=kD steps (steps.length+1) (fun _=>false) []
def iW(r:Rcp):List Nat:=if bC r≠0 then[] else oK r.steps
def grow(needs:Nat->List Nat):Nat->(Nat->Bool)->Nat->(Nat->Bool)
 |0,st,_=>st
 |f+1,st,i=>if st i then st else(needs i).foldl (grow needs f) (kM st i)
def jN(r:Rcp):Nat->Bool:=match bR r.steps r.output with
 |some i=>grow (bK r.steps) (r.steps.length+1) (fun _=>false) i
 |none=>fun _=>false
def oE(r:Rcp):List Nat:=(List.range r.steps.length).filter (jN r)
def eG(r:Rcp):List Nat:=if bC r≠0 then[] else oE r
def pureL(r:Rcp):Bool:=decide (bC r=0)&& !(eG r).any fun i=>match r.steps[i]? with
 |some s=> !cH s
 |none=>true
structure Sound (needs:Nat->List Nat) (st:fD) (rk:Nat->Nat):Prop where
 vals:∀i,st i=0\/st i=1\/st i=2
 shut:∀i,st i=2->∀k,k∈needs i->st k=2/\rk k<rk i
def nF(needs:Nat->List Nat)(st:fD):Prop:=∃rk,Sound needs st rk
theorem nF.open_{needs:Nat->List Nat}{st:fD}{i:Nat}(h:nF needs st)(h0:st i=0):nF needs (kH st i 1):=by
 obtain⟨rk,h1,h2⟩:=h;refine⟨rk,fun j=>?_,fun j hj k hk=>?_⟩
 ·by_cases e:j=i
  ·subst e;rw[kG];exact .inr (.inl rfl)
  ·rw[fF _ _ e];exact h1 j
 ·have hji:j≠i:=by rintro rfl;rw[kG] at hj;omega
  rw[fF _ _ hji] at hj;obtain⟨h3,h4⟩:=h2 j hj k hk;have hki:k≠i:=by rintro rfl;omega
  rw[fF _ _ hki];exact⟨h3,h4⟩
theorem le_sum(rk:Nat->Nat):∀(l:List Nat)(k:Nat),k∈l->rk k<=(l.map rk).sum
 |[],_,h=>by cases h
 |a::r,k,h=>by
  rw[List.map_cons,List.sum_cons];rcases List.mem_cons.1 h with rfl|h
  ·omega
  ·have:=le_sum rk r k h;omega
theorem nF.shut_{needs:Nat->List Nat}{st:fD}{i:Nat}(h:nF needs st)(h0:st i=1)(hn:∀k,k∈needs i->st k=2):nF needs (kH st i 2):=by
 obtain⟨rk,h1,h2⟩:=h;refine⟨fun j=>if j=i then((needs i).map rk).sum+1 else rk j,fun j=>?_,fun j hj k hk=>?_⟩
 ·by_cases e:j=i
  ·subst e;rw[kG];exact .inr (.inr rfl)
  ·rw[fF _ _ e];exact h1 j
 ·by_cases e:j=i
  ·subst e;have hk2:=hn k hk;(have hki:k≠j:=by rintro rfl;omega);rw[fF _ _ hki,if_neg hki,if_pos rfl];exact⟨hk2,by have:=le_sum rk _ _ hk;omega⟩
  ·rw[fF _ _ e] at hj;obtain⟨h3,h4⟩:=h2 j hj k hk;(have hki:k≠i:=by rintro rfl;omega);rw[fF _ _ hki,if_neg hki,if_neg e];exact⟨h3,h4⟩
def ShutOk(needs:Nat->List Nat)(g:fD->Nat->fD×Bool):Prop:=∀st i,nF needs st->(g st i).2=false->nF needs (g st i).1/\(g st i).1 i=2
theorem anyV_ok{needs:Nat->List Nat}{g:fD->Nat->fD×Bool}(hg:ShutOk needs g)(hk:∀st k j,st j≠0->(g st k).1 j=st j):∀(l:List Nat)(st:fD),nF needs st->(lD g st l).2=false->
  nF needs (lD g st l).1/\∀k,k∈l->(lD g st l).1 k=2
 |[],st,h,_=>⟨h,fun k hk=>by cases hk⟩
 |a::r,st,h,hf=>by
  rw[lD] at hf ⊢;by_cases e:(g st a).2=true
  ·rw[if_pos e] at hf;cases hf
  ·rw[if_neg e] at hf ⊢;(have e':(g st a).2=false:=by simpa using e);obtain⟨h1,h2⟩:=hg st a h e';obtain⟨h3,h4⟩:=anyV_ok hg hk r _ h1 hf;refine⟨h3,fun k hm=>?_⟩;rcases List.mem_cons.1 hm with rfl|hm
   ·rw[oW hk r _ k (by rw[h2];decide),h2]
   ·exact h4 k hm
theorem visit_shut(needs:Nat->List Nat):∀f,ShutOk needs (gD needs f)
 |0,st,i,_,hf=>by cases hf
 |f+1,st,i,h,hf=>by
  rw[gD] at hf ⊢;by_cases e:st i≠0
  ·rw[if_pos e] at hf ⊢;have h1:st i≠1:=of_decide_eq_false hf;obtain⟨rk,hv,hs⟩:=h;refine⟨⟨rk,hv,hs⟩,?_⟩;show st i=2;rcases hv i with h0|h0|h0
   ·exact absurd h0 e
   ·exact absurd h0 h1
   ·exact h0
  ·rw[if_neg e] at hf ⊢;have h0:st i=0:=Classical.not_not.1 e;by_cases e2:(lD (gD needs f) (kH st i 1) (needs i)).2=true
   ·rw[if_pos e2] at hf;cases hf
   ·rw[if_neg e2];(have e3:(lD (gD needs f) (kH st i 1) (needs i)).2=false:=by simpa using e2);obtain⟨h3,h4⟩:=anyV_ok (visit_shut needs f) (lF needs f) (needs i) (kH st i 1) (h.open_ h0) e3
    have h5:(lD (gD needs f) (kH st i 1) (needs i)).1 i=1:=by
     rw[oW (lF needs f) (needs i) (kH st i 1) i (by rw[kG];decide),kG]
    exact⟨h3.shut_ h5 h4,kG _ _ _⟩
theorem circleFrom_ok(needs:Nat->List Nat)(f:Nat):∀(n k:Nat)(st:fD),nF needs st->(∀j,j<k->st j=2)->kA needs f k n st=false->∃st',nF needs st'/\∀j,j<k+n->st' j=2
 |0,k,st,h,hk,_=>⟨st,h,hk⟩
 |n+1,k,st,h,hk,hf=>by
  rw[kA,Bool.or_eq_false_iff] at hf;obtain⟨h1,h2⟩:=visit_shut needs f st k h hf.1
  obtain⟨st',h3,h4⟩:=circleFrom_ok needs f n (k+1) _ h1 (fun j hj=>by
   by_cases e:j=k
   ·subst e;exact h2
   ·rw[lF needs f st k j (by rw[hk j (by omega)];decide)];exact hk j (by omega)) hf.2
  exact⟨st',h3,fun j hj=>h4 j (by omega)⟩
theorem circle_rank{steps:List Stp}(h:kL steps=false):∃rk:Nat->Nat,∀i k,k∈bK steps i->rk k<rk i:=by
 obtain⟨st,⟨rk,hv,hs⟩,h2⟩:=circleFrom_ok (bK steps) _ steps.length 0 (fun _=>0) ⟨fun _=>0,fun _=>.inl rfl,fun i hi=>by cases hi⟩ (fun j hj=>absurd hj (by omega)) h;refine⟨rk,fun i k hk=>(hs i (h2 i ?_) k hk).2⟩;rw[Nat.zero_add];unfold bK at hk;split at hk
 ·rename_i s hs;exact(List.getElem?_eq_some_iff.1 hs).1
 ·cases hk
theorem ready_some{steps:List Stp}(h:kL steps=false)(done:Nat->Bool){i:Nat}(hi:i<steps.length)(hd:done i=false):bG steps done≠[]:=by
 obtain⟨rk,hr⟩:=circle_rank h
 have key:∀n i,rk i<=n->i<steps.length->done i=false->bG steps done≠[]:=by
  intro n
  induction n with
  |zero=>
   intro i hn hi hd he
   have:i∈bG steps done:=by
    unfold bG;rw[List.mem_filter];refine⟨List.mem_range.2 hi,?_⟩;unfold jP;rw[hd]
    have:(bK steps i).any (fun k=> !done k)=false:=by
     rw[List.any_eq_false];intro k hk;have:=hr i k hk;omega
    rw[this];rfl
   rw[he] at this;cases this
  |succ n ih=>
   intro i hn hi hd;by_cases hc:(bK steps i).any (fun k=> !done k)=true
   ·obtain⟨k,hk,hkd⟩:=List.any_eq_true.1 hc;have h1:=hr i k hk;have h2:=oO hk;exact ih k (by omega) h2 (by simpa using hkd)
   ·intro he
    have:i∈bG steps done:=by
     unfold bG;rw[List.mem_filter];refine⟨List.mem_range.2 hi,?_⟩;unfold jP;rw[hd];(have:(bK steps i).any (fun k=> !done k)=false:=by simpa using hc);rw[this];rfl
    rw[he] at this;cases this
 exact key (rk i) i (Nat.le_refl _) hi hd
theorem lJ{steps:List Stp}{done:Nat->Bool}{i:Nat}(h:i∈bG steps done):i<steps.length/\done i=false/\∀k,k∈bK steps i->done k=true:=by
 unfold bG at h;rw[List.mem_filter] at h;obtain⟨h1,h2⟩:=h;unfold jP at h2;rw[Bool.and_eq_true,Bool.not_eq_true',Bool.not_eq_true'] at h2;refine⟨List.mem_range.1 h1,h2.1,fun k hk=>?_⟩;have:=List.any_eq_false.1 h2.2 k hk;simpa using this
theorem choose_mem{l:List Nat}(next:List Int)(u:Nat)(h:l≠[]):eC l next u∈l:=by
 unfold eC;have hl:0<l.length:=List.length_pos_iff.2 h
 have hp:gB (next.getD u 0) l.length<l.length:=by
  unfold gB;have h1:=Int.emod_lt_of_pos (next.getD u 0) (show(0:Int)<(l.length:Int) by omega);have h2:=Int.emod_nonneg (next.getD u 0) (show(l.length:Int)≠0 by omega);omega
 rw[List.getD_eq_getElem?_getD,List.getElem?_eq_getElem hp];exact List.getElem_mem hp
def dR(done:Nat->Bool):Nat->Nat
 |0=>0
 |n+1=>dR done n+if done n then 0 else 1
theorem leftN_out(done:Nat->Bool){i:Nat}:∀n,n<=i->dR (kM done i) n=dR done n
 |0,_=>rfl
 |n+1,h=>by rw[dR,dR,leftN_out done n (by omega)];simp[kM,show n≠i by omega]
theorem gM{done:Nat->Bool}{i:Nat}(h:done i=false):∀n,i<n->dR (kM done i) n+1=dR done n
 |0,hn=>absurd hn (by omega)
 |n+1,hn=>by
  rw[dR,dR];by_cases e:i=n
  ·subst e;rw[leftN_out done i (Nat.le_refl _)];simp[kM,h]
  ·have:=gM h n (by omega);(have e2:kM done i n=done n:=by simp[kM,show n≠i by omega]);rw[e2];omega
theorem leftN_le(done:Nat->Bool):∀n,dR done n<=n
 |0=>Nat.le_refl _
 |n+1=>by have:=leftN_le done n;rw[dR];split<;>omega
theorem leftN_pos{done:Nat->Bool}{i n:Nat}(hi:i<n)(h:done i=false):0<dR done n:=by
 have:=gM h n hi;omega
structure mH (r:Rcp):Prop where
 files:aR r.inputs=true
 few:r.steps.length<=60
 steps:∀s,s∈r.steps->aP s=true
 once:twice r=false
 room:r.inputs.length+r.steps.length<=60
 out:aO r r.output=true
 srcs:∀s,s∈r.steps->∀x,x∈s.src->aO r x=true
 circ:kL r.steps=false
theorem mY{r:Rcp}(h:bC r=0):mH r:=by
 unfold bC at h;split at h
 ·cases h
 rename_i h1;split at h
 ·cases h
 rename_i h2;split at h
 ·cases h
 rename_i h3;split at h
 ·cases h
 rename_i h4;split at h
 ·cases h
 rename_i h5
 have e1:aR r.inputs=true/\¬60<r.steps.length/\(r.steps.any fun s=> !aP s)=false:=by
  rw[Bool.not_eq_true,Bool.or_eq_false_iff,Bool.or_eq_false_iff] at h1;exact⟨by simpa using h1.1.1,by simpa using h1.1.2,h1.2⟩
 have e4:aO r r.output=true/\(r.steps.any fun s=>s.src.any fun x=> !aO r x)=false:=by
  rw[Bool.not_eq_true,Bool.or_eq_false_iff] at h4;exact⟨by simpa using h4.1,h4.2⟩
 refine⟨e1.1,by omega,fun s hs=>?_,by simpa using h2,by omega,e4.1,fun s hs x hx=>?_,by simpa using h5⟩
 ·have:=List.any_eq_false.1 e1.2.2 s hs;simpa using this
 ·have:=List.any_eq_false.1 e4.2 s hs;rw[Bool.not_eq_true,List.any_eq_false] at this;have:=this x hx;simpa using this
theorem inspectE_of{r:Rcp}(h:mH r):bC r=0:=by
 have h3:(r.steps.any fun s=> !aP s)=false:=by rw[List.any_eq_false];intro s hs;simp[h.steps s hs]
 have h4:(r.steps.any fun s=>s.src.any fun x=> !aO r x)=false:=by
  rw[List.any_eq_false];intro s hs;simp only[List.any_eq_true,not_exists,not_and];intro x hx;simp[h.srcs s hs x hx]
 have h2:=h.few;have h5:=h.room;unfold bC;rw[h.files,h3,decide_eq_false (by omega),h.once,h.out,h4,h.circ];simp;omega
section
variable {r:Rcp} (h:mH r) (h59:r.inputs.length+r.steps.length<60)
include h h59
omit h59 in
end
end Go.Proofs.YtacgopankhpnbaaGreatDoor
namespace Go.Proofs.YtacgopankhpnbaaGreatDoor
abbrev C0:ByteArray->Int×ByteArray:=fun _=>(0,ByteArray.empty)
theorem doStep_cases(C:ByteArray->Int×ByteArray)(s:Stp)(files:List Fil)(u0 u1:Int):
  (∃c,c≠0/\∀ck od,aX C s files ck od u0 u1=.error c)\/
  (∃saw,aP s=true/\aR files=true/\eT files s.src=some saw/\((s.kind=5/\∀ck od,aX C s files ck od u0 u1=.ok ((C (saw.headD ByteArray.empty)).2,saw,u0,u1))\/
   (s.kind≠5/\∀ck od,aX C s files ck od u0 u1=if 65536<(aS s saw ck od u0 u1).1.size then .error 6 else .ok (aS s saw ck od u0 u1)))):=by
 by_cases hb:(!aP s|| !aR files||decide (min u0 u1<0))=true
 ·exact .inl ⟨1,by decide,fun ck od=>by unfold aX;rw[if_pos hb]⟩
 ·have hr:aP s=true/\aR files=true:=by
   simp only[Bool.or_eq_true,Bool.not_eq_true',not_or,Bool.not_eq_false] at hb;exact hb.1
  by_cases hf:(aI files s.out).isSome=true
  ·exact .inl ⟨5,by decide,fun ck od=>by unfold aX;rw[if_neg hb,if_pos hf]⟩
  ·by_cases h60:60<=files.length
   ·exact .inl ⟨6,by decide,fun ck od=>by unfold aX;rw[if_neg hb,if_neg hf,if_pos h60]⟩
   ·cases hs:eT files s.src with
    |none=>exact .inl ⟨4,by decide,fun ck od=>by unfold aX;rw[if_neg hb,if_neg hf,if_neg h60,hs]⟩
    |some saw=>
     by_cases h5:s.kind=5
     ·by_cases he:(C (saw.headD ByteArray.empty)).1≠0
      ·exact .inl ⟨_,he,fun ck od=>by unfold aX;rw[if_neg hb,if_neg hf,if_neg h60,hs];simp only;rw[if_pos h5,if_pos he]⟩
      ·by_cases hz:65536<(C (saw.headD ByteArray.empty)).2.size
       ·exact .inl ⟨6,by decide,fun ck od=>by unfold aX;rw[if_neg hb,if_neg hf,if_neg h60,hs];simp only;rw[if_pos h5,if_neg he,if_pos hz]⟩
       ·exact .inr ⟨saw,hr.1,hr.2,rfl,.inl ⟨h5,fun ck od=>by unfold aX;rw[if_neg hb,if_neg hf,if_neg h60,hs];simp only;rw[if_pos h5,if_neg he,if_neg hz]⟩⟩
     ·exact .inr ⟨saw,hr.1,hr.2,rfl,.inr ⟨h5,fun ck od=>by unfold aX;rw[if_neg hb,if_neg hf,if_neg h60,hs];simp only;rw[if_neg h5]⟩⟩
theorem right_kinds{s:Stp}(h:aP s=true):s.kind=0\/s.kind=1\/s.kind=2\/s.kind=3\/s.kind=4\/s.kind=5:=by
 unfold aP at h;split at h
 ·cases h
 ·split at h
  ·omega
  ·split at h
   ·omega
   ·split at h
    ·omega
    ·cases h
def iJ(out:List Int):Nat:=out.countP (fun x=>decide (x<0))
theorem negs_set{out:List Int}{k:Nat}{h:Int}(hk:k<out.length)(hn:out.getD k 0<0)(hh:0<=h):iJ (out.set k h)+1=iJ out:=by
 induction out generalizing k with
 |nil=>simp at hk
 |cons x out ih=>
  cases k with
  |zero=>
   simp at hn;simp[iJ,hn,hh]
  |succ k=>
   simp at hk hn;have:=ih hk (by simpa using hn);unfold iJ at this ⊢;rw[List.set_cons_succ,List.countP_cons,List.countP_cons];omega
theorem lookAt_end(n:Nat)(h:Int)(out todo:List Int):iH n h [] out todo=some (out,todo):=rfl
theorem lookAt_full{n:Nat}{h:Int}{r out todo:List Int}:iH n h ((n:Int)::r) out todo=none:=by rw[iH,if_pos rfl]
theorem lookAt_new{n:Nat}{h k:Int}{r out todo:List Int}(h1:k≠n)(h2:out.getD k.toNat 0<0):iH n h (k::r) out todo=iH n h r (out.set k.toNat h) (todo++[k]):=by rw[iH,if_neg h1,if_pos h2]
theorem lookAt_bad{n:Nat}{h k:Int}{r out todo:List Int}(h1:k≠n)(h2:¬out.getD k.toNat 0<0)(h3:out.getD k.toNat 0≠h):iH n h (k::r) out todo=none:=by rw[iH,if_neg h1,if_neg h2,if_pos h3]
theorem lookAt_same{n:Nat}{h k:Int}{r out todo:List Int}(h1:k≠n)(h2:¬out.getD k.toNat 0<0)(h3:¬out.getD k.toNat 0≠h):iH n h (k::r) out todo=iH n h r out todo:=by rw[iH,if_neg h1,if_neg h2,if_neg h3]
theorem behind_range{c:Cod}{i:Ins}{k:Nat}(hf:bN c i=true)(hk:k<c.code.length):∀x∈kU i k,0<=x/\x<=c.code.length:=by
 intro x hx;unfold kU at hx;split at hx
 ·cases hx
 split at hx
 ·rename_i h10;simp at hx;subst hx
  have:0<=i.a/\i.a<c.code.length:=by
   unfold bN at hf;simp[h10] at hf;omega
  omega
 split at hx
 ·rename_i h11
  have:0<=i.a/\i.a<c.code.length:=by
   unfold bN at hf;simp[h11] at hf;omega
  simp at hx;rcases hx with rfl|rfl<;>omega
 ·simp at hx;subst hx;omega
theorem needs_range{c:Cod}{i:Ins}(hf:bN c i=true):0<=(dQ i).1/\(dQ i).1<=8/\0<=(dQ i).2/\(dQ i).2<=1:=by
 unfold dQ;split
 ·simp
 split
 ·simp
 split
 ·simp
 split
 ·rename_i h12
  have:i.names.length<=8:=by
   unfold bN at hf;simp[h12] at hf;omega
  simp;omega
 split
 ·rename_i h14
  have:0<=i.a/\i.a<=6:=by
   unfold bN at hf;simp[h14] at hf;omega
  simp;omega
 split
 ·simp
 ·simp
theorem formed_op{c:Cod}{i:Ins}(hf:bN c i=true):0<=i.op/\i.op<20:=by
 unfold bN at hf;simp only at hf
 repeat' split at hf
 all_goals first|omega|(simp at hf)
end Go.Proofs.YtacgopankhpnbaaGreatDoor
