/- Texts of this seat, joined. -/
import Derived.Test.YtmpopphjaggeoaaGreatDoorZb
import Derived.Lib.ItoaNum
import Derived.Lib.Split
import Derived.Lib.Join
set_option linter.unusedVariables false
set_option linter.unusedSimpArgs false
set_option linter.constructorNameAsVariable false
namespace Go.Proofs.YtmpopphjaggeoaaGreatDoor
def nameByte(c:UInt8):Bool:=decide (33<=(c.toNat:Int))&&decide ((c.toNat:Int)<=126)
def isName(s:bA):Bool:=s.data.toList.all nameByte&& !s.toList.isEmpty&&decide (s.size<=20)
structure Fil where
 name:bA
 text:bA
def wireInt(n:Int):bA:=⟨(Lib.itoa n++[59]).toArray⟩
structure Tok where
 kind:Int
 text:bA
 n:Int
 pos:Int
def blankB(c:UInt8):Bool:=decide (c.toNat=32)||decide (c.toNat=9)||decide (c.toNat=10)
def eB(c:UInt8):Bool:=decide (97<=c.toNat)&&decide (c.toNat<=122)
def fL(c:UInt8):Bool:=decide (48<=c.toNat)&&decide (c.toNat<=57)
def wordB(c:UInt8):Bool:=eB c||fL c
def spanN(p:UInt8->Bool)(l:List UInt8):Nat:=(l.takeWhile p).length
def eK(s:bA):Bool:=match s.data.toList with
 |[]=>false
 |c::_=>eB c&&decide (s.size<=20)&&s.data.toList.all wordB
def decOf(l:List UInt8):Nat:=l.foldl (fun n c=>10*n+(c.toNat-48)) 0
def gP(s:bA):Option Nat:=match s.data.toList with
 |[]=>none
 |c::_=>if s.data.toList.all fL&& !(decide (c.toNat=48)&&decide (s.size≠1))&&decide (s.size<=13)&&decide (decOf s.data.toList<=1099511627776) then some (decOf s.data.toList) else none
def signsL:List bA:=[⟨#[61,61]⟩,⟨#[59]⟩,⟨#[44]⟩,⟨#[61]⟩,⟨#[60]⟩,⟨#[43]⟩,⟨#[45]⟩,⟨#[42]⟩,⟨#[46]⟩,⟨#[33]⟩,⟨#[40]⟩,⟨#[41]⟩,⟨#[123]⟩,⟨#[125]⟩]
inductive Xp where
 |mk (op n:Int) (s m:bA) (names:List bA) (args:List Xp)
inductive Ty where
 |mk (kind:Int) (fields:List (bA×Ty))
abbrev Fld:=bA×Ty
structure Fnc where
 name:bA
 pub:Bool
 params:List Fld
 result:Ty
 effects:Int
 body:Xp
abbrev bs(l:List UInt8):bA:=⟨l.toArray⟩
abbrev iC:bA:=bs [32,97,110,100,32,98,97,99,107,32,98,111,111,108,32,99,108,111,99,107,32,101,108,115,101,32,102,97,108,115,101,32,102,105,108,101,115,32,102,110,32,102,111,114,119,97,114,100,32,103,101,116,32,105,102,32,105,110,32,105,110,116,32,108,101,116,32,109,111,100,117,108,101,32,109,111,118,101,32,110,101,116,32,110,111,116,32,111,114,32,112,117,98,32,115,101,99,114,101,116,115,32,115,101,116,32,116,104,101,110,32,116,114,117,101,32,117,115,101,32,118,97,114,32]
def bE(s:bA):Bool:=eK s&& !Lib.contains iC.data.toList ((bs [32]++s)++bs [32]).data.toList
def bitOf(s:bA):Int:=if s=bs [102,105,108,101,115] then 1 else if s=bs [110,101,116] then 2 else if s=bs [99,108,111,99,107] then 4 else if s=bs [115,101,99,114,101,116,115] then 8 else 0
abbrev PR(α:Type):=Except (Int×Int) (α×Nat)
def bZ(l:List Tok)(i:Nat):Tok:=l.getD i ⟨3,⟨#[]⟩,0,0⟩
def stopP{α:Type}(l:List Tok)(i:Nat)(e:Int):PR α:=.error ((bZ l i).pos,e)
def isP(l:List Tok)(i:Nat)(s:bA):Bool:=decide ((bZ l i).kind≠3)&&decide ((bZ l i).text=s)
def isNameP(l:List Tok)(i:Nat):Bool:=decide ((bZ l i).kind=0)&&bE (bZ l i).text
def wantP(l:List Tok)(i:Nat)(s:bA):PR Unit:=if isP l i s then .ok ((),i+1) else stopP l i 11
def nameP(l:List Tok)(i:Nat):PR bA:=if isNameP l i then .ok ((bZ l i).text,i+1) else stopP l i 11
def freshP(l:List Tok)(i:Nat)(known:bA->Bool):PR bA:=if isNameP l i then(if known (bZ l i).text then stopP l i 5 else .ok ((bZ l i).text,i+1)) else stopP l i 11
def gtB(a b:bA):Bool:= !(Op.bytesLess a.toList b.toList||a.toList==b.toList)
def laterP(l:List Tok)(i:Nat)(than:bA)(any:Bool):PR bA:=
 if isNameP l i then(if any&&decide ((bZ l i).text=than) then stopP l i 5 else if any&& !gtB (bZ l i).text than then stopP l i 12 else .ok ((bZ l i).text,i+1)) else stopP l i 11
def roomP(l:List Tok)(i:Nat)(have_ most:Nat):PR Unit:=if have_<most then .ok ((),i) else stopP l i 6
abbrev kIf:bA:=bs [105,102]
abbrev kThen:bA:=bs [116,104,101,110]
abbrev kElse:bA:=bs [101,108,115,101]
abbrev kLet:bA:=bs [108,101,116]
abbrev kEq:bA:=bs [61]
abbrev kIn:bA:=bs [105,110]
abbrev kSet:bA:=bs [115,101,116]
abbrev kNot:bA:=bs [110,111,116]
abbrev kTrue:bA:=bs [116,114,117,101]
abbrev kFalse:bA:=bs [102,97,108,115,101]
abbrev kGet:bA:=bs [103,101,116]
abbrev iG:bA:=bs [40]
abbrev kShut:bA:=bs [41]
abbrev kLBrace:bA:=bs [123]
abbrev kRBrace:bA:=bs [125]
abbrev kDot:bA:=bs [46]
abbrev kComma:bA:=bs [44]
abbrev kOr:bA:=bs [111,114]
abbrev kAnd:bA:=bs [97,110,100]
abbrev kEqEq:bA:=bs [61,61]
abbrev kLess:bA:=bs [60]
abbrev kPlus:bA:=bs [43]
abbrev kMinus:bA:=bs [45]
abbrev kStar:bA:=bs [42]
abbrev kFiles:bA:=bs [102,105,108,101,115]
abbrev kNet:bA:=bs [110,101,116]
abbrev kClock:bA:=bs [99,108,111,99,107]
abbrev kSecrets:bA:=bs [115,101,99,114,101,116,115]
abbrev noB:bA:=⟨#[]⟩
def PR.bnd{α β:Type}(m:PR α)(k:α->Nat->PR β):PR β:=match m with
 | .error x=>.error x
 | .ok (a,j)=>k a j
def opers:List (bA×Int×Nat):=[(kOr,9,1),(kAnd,8,2),(kEqEq,7,4),(kLess,6,4),(kPlus,3,5),(kMinus,4,5),(kStar,5,6)]
def operAt(l:List Tok)(i:Nat):Option (bA×Int×Nat):=opers.find? fun o=>isP l i o.1
mutual
def gU:Xp->Nat
 | .mk _ _ _ _ _ args=>depthXs args+1
def depthXs:List Xp->Nat
 |[]=>0
 |x::r=>max (gU x) (depthXs r)
end
abbrev RecP:=Nat->Nat->PR Xp
section
variable (l:List Tok) (rec:RecP)
def dotsP:Nat->Xp->Nat->PR Xp
 |0,e,i=>.ok (e,i)
 |f+1,e,i=>if isP l i kDot then(nameP l (i+1)).bnd fun s j=>dotsP f (.mk 14 0 s noB [] [e]) j else .ok (e,i)
def opsP(form:Nat):Nat->Nat->Xp->Nat->PR Xp
 |0,_,e,i=>.ok (e,i)
 |f+1,own,e,i=>match operAt l i with
  |none=>.ok (e,i)
  |some (_,op,fm)=>if fm<form\/own<fm\/(own=4/\fm=4) then .ok (e,i)
   else(rec (fm+1) (i+1)).bnd fun b j=>opsP form f fm (.mk op 0 noB noB [] [e,b]) j
def dottedP(i:Nat):Bool:=isP l i kDot&&decide (i+2<l.length)&&decide ((bZ l (i+1)).kind=0)&&bE (bZ l (i+1)).text&&decide ((bZ l (i+2)).kind=2)&&decide ((bZ l (i+2)).text=iG)
def beginsP(i:Nat):Bool:=
 if(bZ l i).kind=1 then true
 else if(bZ l i).kind=2 then decide ((bZ l i).text=iG)||decide ((bZ l i).text=kLBrace)
 else if(bZ l i).kind=3 then false
 else([kIf,kLet,kSet,kNot,kTrue,kFalse,kGet].any fun s=>decide ((bZ l i).text=s))||decide (bitOf (bZ l i).text≠0)||bE (bZ l i).text
def operandsFrom:Nat->List Xp->Nat->PR (List Xp)
 |0,out,i=>.ok (out,i)
 |f+1,out,i=>(if beginsP l i then roomP l i out.length 6 else .ok ((),i)).bnd fun _ _=>(rec 0 i).bnd fun e j=>
  if isP l j kComma then operandsFrom f (out++[e]) (j+1) else(wantP l j kShut).bnd fun _ k=>.ok (out++[e],k)
def operandsP(i:Nat):PR (List Xp):=(wantP l i iG).bnd fun _ j=>if isP l j kShut then .ok ([],j+1) else operandsFrom l rec (l.length+1) [] j
def recordFrom:Nat->List bA->List Xp->bA->Nat->PR Xp
 |0,names,args,_,i=>.ok (.mk 13 0 noB noB names args,i)
 |f+1,names,args,last,i=>(if isNameP l i then roomP l i names.length 8 else .ok ((),i)).bnd fun _ _=>(laterP l i last (decide (0<names.length))).bnd fun s j=>(wantP l j kEq).bnd fun _ j2=>(rec 0 j2).bnd fun e j3=>
  if isP l j3 kComma then recordFrom f (names++[s]) (args++[e]) s (j3+1) else(wantP l j3 kRBrace).bnd fun _ k=>.ok (.mk 13 0 noB noB (names++[s]) (args++[e]),k)
def recordP(i:Nat):PR Xp:=if isP l i kRBrace then .ok (.mk 13 0 noB noB [] [],i+1) else recordFrom l rec (l.length+1) [] [] noB i
def callP(s:bA)(j:Nat):PR Xp:=
 if isP l j iG then(operandsP l rec j).bnd fun as k=>.ok (.mk 15 0 s noB [] as,k)
 else if dottedP l j then(nameP l (j+1)).bnd fun f k=>(operandsP l rec k).bnd fun as k2=>.ok (.mk 15 0 f s [] as,k2)
 else .ok (.mk 2 0 s noB [] [],j)
def parenP(i:Nat):PR Xp:=(rec 0 i).bnd fun e j=>(wantP l j kShut).bnd fun _ k=>.ok (e,k)
def primaryP(i:Nat):PR Xp:=
 if(bZ l i).kind=1 then .ok (.mk 0 (bZ l i).n noB noB [] [],i+1)
 else if isP l i kTrue then .ok (.mk 1 1 noB noB [] [],i+1)
 else if isP l i kFalse then .ok (.mk 1 0 noB noB [] [],i+1)
 else if isP l i kGet then(nameP l (i+1)).bnd fun s j=>.ok (.mk 17 0 s noB [] [],j)
 else if(bZ l i).kind=0/\bitOf (bZ l i).text≠0 then(wantP l (i+1) iG).bnd fun _ j=>(parenP l rec j).bnd fun e k=>.ok (.mk 16 (bitOf (bZ l i).text) noB noB [] [e],k)
 else if isP l i kLBrace then recordP l rec (i+1)
 else if isP l i iG then parenP l rec (i+1)
 else(nameP l i).bnd fun s j=>callP l rec s j
def prefixP(form i:Nat):PR (Xp×Nat):=
 if form=0/\isP l i kIf=true then(rec 0 (i+1)).bnd fun a j=>(wantP l j kThen).bnd fun _ j2=>(rec 0 j2).bnd fun b j3=>(wantP l j3 kElse).bnd fun _ j4=>(rec 0 j4).bnd fun c j5=>.ok ((.mk 11 0 noB noB [] [a,b,c],0),j5)
 else if form=0/\isP l i kLet=true then(nameP l (i+1)).bnd fun s j=>(wantP l j kEq).bnd fun _ j2=>(rec 0 j2).bnd fun a j3=>(wantP l j3 kIn).bnd fun _ j4=>(rec 0 j4).bnd fun b j5=>.ok ((.mk 12 0 s noB [] [a,b],0),j5)
 else if form=0/\isP l i kSet=true then(nameP l (i+1)).bnd fun s j=>(rec 0 j).bnd fun a j2=>.ok ((.mk 18 0 s noB [] [a],0),j2)
 else if form<=3/\isP l i kNot=true then(rec 3 (i+1)).bnd fun a j=>.ok ((.mk 10 0 noB noB [] [a],3),j)
 else(primaryP l rec i).bnd fun e j=>.ok ((e,8),j)
end
def expP(l:List Tok):Nat->RecP
 |0,_,i=>stopP l i 11
 |f+1,form,i=>(prefixP l (expP l f) form i).bnd fun r j=>
  (if 7<=r.2 then dotsP l (l.length+1) r.1 j else .ok (r.1,j)).bnd fun e k=>opsP l (expP l f) form (l.length+1) r.2 e k
section
variable (l:List Tok)
def effectL:List (bA×Int):=[(kFiles,1),(kNet,2),(kClock,4),(kSecrets,8)]
end
end Go.Proofs.YtmpopphjaggeoaaGreatDoor
namespace Go.Proofs.YtmpopphjaggeoaaGreatDoor
def cleanX:Xp->(Int×bA×bA×List bA)×Int
 | .mk op n s m names _=>
  if op=0\/op=1 then((n,noB,noB,[]),0)
  else if op=2\/op=17 then((0,s,noB,[]),0)
  else if op=18\/op=14 then((0,s,noB,[]),1)
  else if op=16 then((n,noB,noB,[]),1)
  else if op=10 then((0,noB,noB,[]),1)
  else if op=12 then((0,s,noB,[]),2)
  else if op=11 then((0,noB,noB,[]),3)
  else if op=13 then((0,noB,noB,names),names.length)
  else if op=15 then((0,s,m,[]),-1)
  else((0,noB,noB,[]),2)
def gX:Option bA->List bA->Bool
 |_,[]=>true
 |before,n::r=>bE n&&(match before with|none=>true|some b=>gtB n b)&&gX (some n) r
def fP:Xp->Bool
 | .mk op n s m names args=>
  if op=0 then decide (0<=n)&&decide (n<=1099511627776)
  else if op=1 then decide (n=0)||decide (n=1)
  else if op=16 then decide (n=1)||decide (n=2)||decide (n=4)||decide (n=8)
  else if op=2\/op=17\/op=18\/op=14\/op=12 then bE s
  else if op=15 then bE s&&(decide (m=noB)||bE m)&&decide (args.length<=6)
  else if op=13 then gX none names&&decide (names.length<=8)
  else true
def aX:Nat->Xp->Bool
 |0,_=>false
 |d+1,.mk op n s m names args=>
  decide (0<=op)&&decide (op<19)&&
  (decide ((cleanX (.mk op n s m names args)).2<0)||decide ((cleanX (.mk op n s m names args)).2=args.length))&&
  decide ((cleanX (.mk op n s m names args)).1.1=n)&&decide ((cleanX (.mk op n s m names args)).1.2.1=s)&&decide ((cleanX (.mk op n s m names args)).1.2.2.1=m)&&
  decide ((cleanX (.mk op n s m names args)).1.2.2.2.length=names.length)&&fP (.mk op n s m names args)&&args.all (aX d)
structure Ins where
 op:Int
 a:Int
 s:bA
 m:bA
 names:List bA
structure Cmp where
 code:List Ins
 locals:Nat
def Cmp.put(c:Cmp)(i:Ins):Cmp:=⟨c.code++[i],c.locals⟩
def ins(op a:Int):Ins:=⟨op,a,noB,noB,[]⟩
structure Ver where
 a:Int
 b:Int
 c:Int
deriving DecidableEq,Inhabited
structure Rng where
 lo:Ver
 hi:Ver
deriving DecidableEq,Inhabited
structure Nd where
 name:bA
 ranges:List Rng
 kind:Int
 whn:bA
 feats:List bA
structure Ft where
 name:bA
 implies:List bA
structure Rl where
 name:bA
 ver:Ver
 source:bA
 needs:List Nd
 feats:List Ft
 plats:List bA
 lic:bA
structure Ad where
 id:Int
 name:bA
 ranges:List Rng
 fn:bA
 cond:Xp
structure Fc where
 kind:Int
 name:bA
 ver:Ver
 rel:Rl
 adv:Ad
 keys:List Int
 need:Int
 til:Int
 print:Int
 time:Int
def dI:Ver:=⟨0,0,0⟩
def xp0:Xp:=.mk 0 0 noB noB [] []
def rl0:Rl:=⟨noB,dI,noB,[],[],[],noB⟩
def ad0:Ad:=⟨0,noB,[],noB,xp0⟩
def fc0:Fc:=⟨0,noB,dI,rl0,ad0,[],0,0,0,0⟩
def aU(v:Ver):Bool:=decide (0<=v.a)&&decide (0<=v.b)&&decide (0<=v.c)&&decide (v.a<=1048576)&&decide (v.b<=1048576)&&decide (v.c<=1048576)
def cmpI(x y:Int):Int:=if x<y then -1 else if y<x then 1 else 0
def bB(v u:Ver):Int:=if cmpI v.a u.a≠0 then cmpI v.a u.a else if cmpI v.b u.b≠0 then cmpI v.b u.b else cmpI v.c u.c
def inR(r:Rng)(v:Ver):Bool:=decide (bB r.lo v<=0)&&decide (bB v r.hi<0)
def hasV(l:List Rng)(v:Ver):Bool:=l.any fun r=>inR r v
def fE(v:Ver):List UInt8:=Lib.itoa v.a++[46]++Lib.itoa v.b++[46]++Lib.itoa v.c
def dX(c:UInt8):Bool:=decide (97<=c)&&decide (c<=122)
def dN(c:UInt8):Bool:=dX c||(decide (48<=c)&&decide (c<=57))
def partOk(first:Bool)(p:bA):Bool:=match p.data.toList with
 |[]=>false
 |c::_=>(!first||dX c)&&p.data.toList.all dN
def fN:Bool->List bA->Bool
 |_,[]=>true
 |first,p::r=>partOk first p&&fN false r
def dash:bA:=⟨#[45]⟩
def eX(s:bA):List bA:=Lib.splitB dash 0 (Lib.countB s dash) s
def bT(s:bA):Bool:=decide (s.size<=20)&&fN true (eX s)
def ltS(a b:bA):Bool:=Op.bytesLess a.toList b.toList
def gQ:Option bA->List bA->Bool
 |_,[]=>true
 |before,n::r=>bT n&&(match before with|none=>true|some b=>ltS b n)&&gQ (some n) r
def dC(l:List bA):Bool:=gQ none l&&decide (l.length<=12)
def dU:Option Ver->List Rng->Bool
 |_,[]=>true
 |before,r::l=>decide (bB r.lo r.hi<0)&&(match before with|none=>true|some h=>decide (bB h r.lo<0))&&dU (some r.hi) l
def eW(l:List Rng):Bool:=(l.all fun r=>aU r.lo&&aU r.hi)&&decide (l.length<=6)&&dU none l
def eE(n:Nd)(features:List bA):Bool:=
 bT n.name&&eW n.ranges&&decide (0<=n.kind)&&decide (n.kind<3)&&(decide (n.whn=noB)||features.any fun x=>decide (x=n.whn))&&dC n.feats&&(decide (n.kind=0)||decide (n.feats.length=0))
inductive Lic where
 |mk (op:Int) (name:bA) (args:List Lic)
def Lic.op:Lic->Int| .mk op _ _=>op
def Lic.args:Lic->List Lic| .mk _ _ a=>a
def licB(c:UInt8):Bool:=dN c||decide (c=45)||decide (c=46)
def iH:bA:=⟨#[97,110,100]⟩
def kOrL:bA:=⟨#[111,114]⟩
def kParL:bA:=⟨#[40]⟩
def kParR:bA:=⟨#[41]⟩
def eA(s:bA):Bool:=match s.data.toList with
 |[]=>false
 |c::_=>decide (s.size<=20)&& !decide (s=iH)&& !decide (s=kOrL)&&dX c&&s.data.toList.all licB
mutual
def bJ:Nat->Lic->Int
 |lv,.mk op name args=>
  if op=0 then(if eA name&&decide (args.length=0) then 1 else 17)
  else if(op=1\/op=2)/\name=noB/\2<=args.length/\lv<=16 then bR op lv 0 args else 17
def bR(op:Int)(lv:Nat)(n:Int):List Lic->Int
 |[]=>n
 |x::r=>if x.op=op then 17 else if n+bJ (lv+1) x>16 then n+bJ (lv+1) x else bR op lv (n+bJ (lv+1) x) r
end
def licRight(e:Lic):Bool:=decide (bJ 0 e<=16)
def gL(op:Int)(acc:List Lic):Lic:=match acc with|[x]=>x|_=>.mk op noB acc
def eR(op:Int)(btw:bA)(part:List bA->Option (Lic×List bA)):Nat->List Lic->List bA->Option (Lic×List bA)
 |0,_,_=>none
 |k+1,acc,l=>match part l with
  |none=>none
  |some (x,r)=>match r with
   |[]=>some (gL op (acc++if x.op=op then x.args else[x]),[])
   |t::r'=>if t=btw then eR op btw part k (acc++if x.op=op then x.args else[x]) r' else some (gL op (acc++if x.op=op then x.args else[x]),t::r')
def bX:Nat->List bA->Option (Lic×List bA)
 |0,_=>none
 |_+1,[]=>none
 |d+1,t::r=>
  if t=kParL then match eR 2 kOrL (fun l=>eR 1 iH (bX d) (l.length+1) [] l) (r.length+1) [] r with
   |none=>none
   |some (_,[])=>none
   |some (e,u::r')=>if u=kParR then some (e,r') else none
  else if eA t then some (.mk 0 t [],r) else none
def licSeq(d:Nat)(l:List bA):Option (Lic×List bA):=eR 1 iH (bX d) (l.length+1) [] l
def licAlt(d:Nat)(l:List bA):Option (Lic×List bA):=eR 2 kOrL (licSeq d) (l.length+1) [] l
def hJ(c:UInt8):List UInt8:=if c=40 then[32,40,32] else if c=41 then[32,41,32] else[c]
def cG(s:bA):bA:=⟨(s.data.toList.flatMap hJ).toArray⟩
def spaceB:bA:=⟨#[32]⟩
def eQ(s:bA):List bA:=(Lib.splitB spaceB 0 (Lib.countB (cG s) spaceB) (cG s)).filter fun x=> !decide (x=noB)
def eZ(s:bA):Except Int Lic:=
 if 1000<s.size then .error 6
 else match licAlt ((eQ s).length+1) (eQ s) with
  |none=>.error 2
  |some (_,_::_)=>.error 2
  |some (e,[])=>if licRight e then .ok e else .error 6
def iE(s:bA):Bool:=match eZ s with| .ok _=>true| .error _=>false
def dM(r:Rl):Bool:=
 bT r.name&&aU r.ver&&decide (r.source.size<=8000)&&dC (r.feats.map (·.name))&&decide (r.needs.length<=30)&&dC r.plats&&
 (r.feats.all fun f=>dC f.implies&&f.implies.all fun s=>(r.feats.map (·.name)).any fun x=>decide (x=s))&&(r.needs.all fun n=>eE n (r.feats.map (·.name)))&&iE r.lic
def advOk(a:Ad):Bool:=decide (0<=a.id)&&decide (a.id<=1073741824)&&bT a.name&&eW a.ranges&&bE a.fn&&aX 12 a.cond
def bK:Option Int->List Int->Bool
 |_,[]=>true
 |before,k::r=>decide (0<=k)&&decide (k<200)&&(match before with|none=>true|some b=>decide (b<k))&&bK (some k) r
def bL(f:Fc):Bool:=bK none f.keys&&decide (f.keys.length<=12)&&decide (1<=f.need)&&decide (f.need<=f.keys.length)
def fW(f:Fc):Fc:=
 if f.kind=0 then {fc0 with kind:=f.kind,time:=f.time,rel:=f.rel}
 else if f.kind=1\/f.kind=2 then {fc0 with kind:=f.kind,time:=f.time,name:=f.name,ver:=f.ver}
 else if f.kind=3 then {fc0 with kind:=f.kind,time:=f.time,adv:=f.adv}
 else if f.kind=4\/f.kind=5\/f.kind=6 then {fc0 with kind:=f.kind,time:=f.time,name:=f.name,keys:=f.keys,need:=f.need,til:=f.til}
 else if f.kind=7 then {fc0 with kind:=f.kind,time:=f.time,name:=f.name,ver:=f.ver,print:=f.print}
 else {fc0 with kind:=f.kind,time:=f.time}
def cX(f:Fc):Bool:=
 if f.kind=0 then dM f.rel
 else if f.kind=1\/f.kind=2 then bT f.name&&aU f.ver
 else if f.kind=3 then advOk f.adv
 else if f.kind=4\/f.kind=5\/f.kind=6 then bT f.name&&bL f&&(decide (f.til=0)||(decide (f.kind=6)&&decide (0<=f.til)&&decide (f.til<=200000)))
 else if f.kind=7 then bT f.name&&aU f.ver&&decide (0<=f.print)&&decide (f.print<=1073741824)
 else false
noncomputable def eqF (f g:Fc):Bool:=@decide (f=g) (Classical.propDecidable _)
noncomputable def aJ (f:Fc):Bool:=decide (0<=f.time)&&decide (f.time<=1073741824)&&cX f&&eqF f (fW f)
def gS:List UInt8:=[114,101,108,101,97,115,101,32]
def kYank:List UInt8:=[121,97,110,107,32]
def kAdvise:List UInt8:=[97,100,118,105,115,101,32]
def kBuild:List UInt8:=[98,117,105,108,100,32]
def kKeys:List UInt8:=[107,101,121,115,32]
def keyL(f:Fc):List UInt8:=
 if f.kind=0 then gS++f.rel.name.data.toList++[32]++fE f.rel.ver
 else if f.kind=1\/f.kind=2 then kYank++f.name.data.toList++[32]++fE f.ver
 else if f.kind=3 then kAdvise++f.adv.name.data.toList
 else if f.kind=7 then kBuild++f.name.data.toList++[32]++fE f.ver
 else kKeys++f.name.data.toList
noncomputable def bM (f:Fc):bA:=if aJ f then bs (keyL f) else noB
def dG(l:List Fc)(s:bA):List Ver:=l.filterMap fun f=>if f.kind=0/\f.rel.name=s then some f.rel.ver else none
def leV(v u:Ver):Bool:=decide (bB v u<=0)
def dedupV:List Ver->List Ver
 |[]=>[]
 |[v]=>[v]
 |v::u::r=>if v=u then dedupV (u::r) else v::dedupV (u::r)
def releasesF(l:List Fc)(s:bA):List Ver:=dedupV ((dG l s).mergeSort leV)
def isAt(one other:Int)(s:bA)(v:Ver)(f:Fc):Bool:=(decide (f.kind=one)||decide (f.kind=other))&&decide (f.name=s)&&decide (f.ver=v)
def lastF(l:List Fc)(one other:Int)(s:bA)(v:Ver):Option Fc:=l.reverse.find? (isAt one other s v)
def fY(l:List Fc)(s:bA)(v:Ver):Bool:=match lastF l 1 2 s v with|some f=>decide (f.kind=1)|none=>false
def verdictF(l:List Fc)(s:bA)(v:Ver):Int×Bool:=match lastF l 7 7 s v with|some f=>(f.print,true)|none=>(0,false)
def isAdv(s:bA)(v:Ver)(f:Fc):Bool:=decide (f.kind=3)&&decide (f.adv.name=s)&&hasV f.adv.ranges v
def advFrom(s:bA)(v:Ver):Nat->List Fc->List Int
 |_,[]=>[]
 |i,f::r=>if isAdv s v f then(i:Int)::advFrom s v (i+1) r else advFrom s v (i+1) r
def advicesF(l:List Fc)(s:bA)(v:Ver):List Int:=advFrom s v 0 l
def isRel(s:bA)(v:Ver)(f:Fc):Bool:=decide (f.kind=0)&&decide (f.rel.name=s)&&decide (f.rel.ver=v)
def releaseF(l:List Fc)(s:bA)(v:Ver):Option Nat:=l.findIdx? (isRel s v)
mutual
def iA:Xp->Xp->Bool
 | .mk o n s m ns as,.mk o' n' s' m' ns' as'=>decide (o=o')&&decide (n=n')&&decide (s=s')&&decide (m=m')&&decide (ns=ns')&&gO as as'
def gO:List Xp->List Xp->Bool
 |[],[]=>true
 |x::r,y::q=>iA x y&&gO r q
 |[],_::_=>false
 |_::_,[]=>false
end
mutual
theorem sameX_iff:∀(a b:Xp),iA a b=true↔a=b
 | .mk o n s m ns as,.mk o' n' s' m' ns' as'=>by
  rw[iA];simp only[Bool.and_eq_true,decide_eq_true_eq,sameXs_iff as as',Xp.mk.injEq];constructor
  ·rintro⟨⟨⟨⟨⟨h1,h2⟩,h3⟩,h4⟩,h5⟩,h6⟩;exact⟨h1,h2,h3,h4,h5,h6⟩
  rintro⟨h1,h2,h3,h4,h5,h6⟩;exact⟨⟨⟨⟨⟨h1,h2⟩,h3⟩,h4⟩,h5⟩,h6⟩
theorem sameXs_iff:∀(a b:List Xp),gO a b=true↔a=b
 |[],[]=>by simp[gO]
 |x::r,y::q=>by rw[gO,Bool.and_eq_true,sameX_iff x y,sameXs_iff r q,List.cons.injEq]
 |[],_::_=>by simp[gO]
 |_::_,[]=>by simp[gO]
end
def numX(n:Int):bA:=bs (Lib.itoa n)
def formX(op:Int):Nat×bA:=match opers.find? fun o=>decide (o.2.1=op) with
 |some o=>(o.2.2,o.1)
 |none=>(if op=11\/op=12\/op=18 then 0 else if op=10 then 3 else if op=14 then 7 else 8,noB)
def atForm(p:Nat×List bA)(form:Nat):List bA:=if p.1<form then iG::(p.2++[kShut]) else p.2
def commaT:List (List bA)->List bA
 |[]=>[]
 |[x]=>x
 |x::y::r=>x++kComma::commaT (y::r)
def argT(as:List (Nat×List bA))(k form:Nat):List bA:=atForm (as.getD k (8,[])) form
def recT:List bA->List (Nat×List bA)->List (List bA)
 |s::names,a::as=>(s::kEq::a.2)::recT names as
 |_,_=>[]
def wordsOf(op n:Int)(s m:bA)(names:List bA)(as:List (Nat×List bA)):List bA:=
 if(formX op).2≠noB then argT as 0 (if(formX op).1=4 then 5 else(formX op).1)++(formX op).2::argT as 1 ((formX op).1+1)
 else if op=0 then[numX n]
 else if op=1 then[if n=1 then kTrue else kFalse]
 else if op=2 then[s]
 else if op=17 then[kGet,s]
 else if op=18 then kSet::s::argT as 0 0
 else if op=10 then kNot::argT as 0 3
 else if op=14 then argT as 0 7++[kDot,s]
 else if op=12 then kLet::s::kEq::(argT as 0 0++kIn::argT as 1 0)
 else if op=11 then kIf::(argT as 0 0++kThen::(argT as 1 0++kElse::argT as 2 0))
 else if op=13 then kLBrace::(commaT (recT names as)++[kRBrace])
 else(if m≠noB then[m,kDot] else[])++((if op=16 then(effectL.filter fun w=>decide (w.2=n)).map (·.1) else[s])++iG::(commaT (as.map (·.2))++[kShut]))
def ownX:Xp->Nat
 | .mk op _ _ _ _ _=>(formX op).1
mutual
def gH:Xp->List bA
 | .mk op n s m names args=>wordsOf op n s m names (wordsXs args)
def wordsXs:List Xp->List (Nat×List bA)
 |[]=>[]
 |x::r=>(ownX x,gH x)::wordsXs r
end
def fO(e:Xp)(form:Nat):List bA:=atForm (ownX e,gH e) form
def tokenB(t:bA):Bool:=eK t||(gP t).isSome||signsL.any fun x=>decide (x=t)
def kindOf(t:bA):Int:=if eK t then 0 else if(gP t).isSome then 1 else 2
def TokIs(k:Tok)(t:bA):Prop:=k.kind=kindOf t/\k.text=t/\k.n=((gP t).getD 0:Nat)
inductive Spells:List UInt8->List bA->Prop where
 |none (b:List UInt8):(∀c∈b,blankB c=true)->Spells b []
 |more (b:List UInt8) (t:bA) (r:List UInt8) (ts:List bA):(∀c∈b,blankB c=true)->tokenB t=true->(∀c,r.head? =some c->blankB c=true)->Spells r ts->Spells (b++(t.data.toList++r)) (t::ts)
theorem size_toList(s:bA):s.size=s.data.toList.length:=by rw[Array.length_toList];rfl
theorem letter_facts{c:UInt8}(h:eB c=true):fL c=false/\blankB c=false:=by
 unfold eB at h;simp only[Bool.and_eq_true,decide_eq_true_eq] at h;unfold fL blankB;constructor
 ·rw[Bool.and_eq_false_iff];right;rw[decide_eq_false_iff_not];omega
 simp only[Bool.or_eq_false_iff,decide_eq_false_iff_not];omega
theorem digit_facts{c:UInt8}(h:fL c=true):eB c=false/\blankB c=false:=by
 unfold fL at h;simp only[Bool.and_eq_true,decide_eq_true_eq] at h;unfold eB blankB;constructor
 ·rw[Bool.and_eq_false_iff];left;rw[decide_eq_false_iff_not];omega
 simp only[Bool.or_eq_false_iff,decide_eq_false_iff_not];omega
theorem word_parts{t:bA}(h:eK t=true):∃c r,t.data.toList=c::r/\eB c=true/\(∀x∈t.data.toList,wordB x=true):=by
 unfold eK at h;split at h
 ·cases h
 rename_i c r hd;simp only[Bool.and_eq_true] at h;exact⟨c,r,hd,h.1.1,fun x hx=>List.all_eq_true.1 h.2 x hx⟩
theorem number_parts{t:bA}{n:Nat}(h:gP t=some n):∃c r,t.data.toList=c::r/\fL c=true/\(∀x∈t.data.toList,fL x=true):=by
 unfold gP at h;split at h
 ·cases h
 rename_i c r hd;split at h
 ·rename_i hc;simp only[Bool.and_eq_true] at hc;have oC:=hc.1.1.1;exact⟨c,r,hd,List.all_eq_true.1 oC c (by rw[hd];simp),fun x hx=>List.all_eq_true.1 oC x hx⟩
 cases h
theorem signs_facts:∀t∈signsL,eK t=false/\gP t=none/\∃c r,t.data.toList=c::r/\eB c=false/\fL c=false/\blankB c=false:=by
 intro t ht;simp only[signsL,List.mem_cons,List.not_mem_nil,or_false] at ht;rcases ht with h|h|h|h|h|h|h|h|h|h|h|h|h|h<;>subst h<;>exact⟨by decide+kernel,by decide+kernel,_,_,rfl,by decide,by decide,by decide⟩
theorem token_cases{t:bA}(h:tokenB t=true):eK t=true\/(∃n,gP t=some n)\/t∈signsL:=by
 unfold tokenB at h;rw[Bool.or_eq_true,Bool.or_eq_true] at h;rcases h with(h|h)|h
 ·exact .inl h
 ·exact .inr (.inl (Option.isSome_iff_exists.1 h))
 obtain⟨x,hx,e⟩:=List.any_eq_true.1 h;rw[decide_eq_true_eq] at e;rw[<-e];exact .inr (.inr hx)
theorem token_head{t:bA}(h:tokenB t=true):∃c r,t.data.toList=c::r/\blankB c=false:=by
 rcases token_cases h with h|⟨n,h⟩|h
 ·obtain⟨c,r,hd,hc,-⟩:=word_parts h;exact⟨c,r,hd,(letter_facts hc).2⟩
 ·obtain⟨c,r,hd,hc,-⟩:=number_parts h;exact⟨c,r,hd,(digit_facts hc).2⟩
 obtain⟨-,-,c,r,hd,-,-,hb⟩:=signs_facts t h;exact⟨c,r,hd,hb⟩
theorem Spells.length{b:List UInt8}{ts:List bA}(h:Spells b ts):ts.length<=b.length:=by
 induction h with
 |none b hb=>simp
 |more b t r ts hb ht hr hsp ih=>
  obtain⟨c,q,htd,-⟩:=token_head ht;rw[htd];simp;omega
theorem bnd_ok{α β:Type}(a:α)(j:Nat)(k:α->Nat->PR β):PR.bnd (.ok (a,j)) k=k a j:=rfl
structure eP (l:List Tok) (i:Nat) (ts:List bA):Prop where
 room:i+ts.length<l.length
 at_:∀(k:Nat)t,ts[k]? =some t->TokIs (bZ l (i+k)) t
section
variable {l:List Tok} {i:Nat} {t:bA} {ts us:List bA}
theorem eP.head(h:eP l i (t::ts)):TokIs (bZ l i) t:=h.at_ 0 t rfl
theorem eP.tail(h:eP l i (t::ts)):eP l (i+1) ts:=⟨by have:=h.room;rw[List.length_cons] at this;omega,fun k u hk=>by have:=h.at_ (k+1) u hk;rwa [show i+(k+1)=i+1+k by omega] at this⟩
theorem eP.left(h:eP l i (ts++us)):eP l i ts:=⟨by have:=h.room;rw[List.length_append] at this;omega,fun k u hk=>h.at_ k u (by rw[List.getElem?_append_left (List.getElem?_eq_some_iff.1 hk).1];exact hk)⟩
theorem eP.right(h:eP l i (ts++us)):eP l (i+ts.length) us:=⟨by have:=h.room;rw[List.length_append] at this;omega,fun k u hk=>by
 have:=h.at_ (ts.length+k) u (by rw[List.getElem?_append_right (by omega),Nat.add_sub_cancel_left];exact hk)
 rwa [<-Nat.add_assoc] at this⟩
theorem kindOf_ne(t:bA):kindOf t≠3:=by unfold kindOf;split;decide;split<;>decide
theorem TokIs.says(h:TokIs (bZ l i) t)(s:bA):isP l i s=decide (t=s):=by
 obtain⟨h1,h2,-⟩:=h;unfold isP;rw[h1,h2,decide_eq_true (kindOf_ne t),Bool.true_and]
theorem eP.says(h:eP l i (t::ts))(s:bA):isP l i s=decide (t=s):=h.head.says s
theorem name_word(h:bE t=true):eK t=true:=by
 unfold bE at h;rw[Bool.and_eq_true] at h;exact h.1
theorem eP.kind(h:eP l i (t::ts)):(bZ l i).kind=kindOf t:=h.head.1
theorem eP.text(h:eP l i (t::ts)):(bZ l i).text=t:=h.head.2.1
theorem kind_word(h:eK t=true):kindOf t=0:=by unfold kindOf;rw[h];rfl
theorem eP.isName(h:eP l i (t::ts))(hn:bE t=true):isNameP l i=true:=by
 unfold isNameP;rw[h.kind,h.text,hn,kind_word (name_word hn)];rfl
theorem eP.name(h:eP l i (t::ts))(hn:bE t=true):nameP l i=.ok (t,i+1):=by
 unfold nameP;rw[h.isName hn,h.text];rfl
theorem eP.oper(h:eP l i (t::ts)):operAt l i=opers.find? fun o=>decide (t=o.1):=by
 unfold operAt;congr 1;exact funext fun o=>h.says o.1
end
structure Stops (l:List Tok) (j:Nat):Prop where
 dot:isP l j kDot=false
 opn:isP l j iG=false
 oper:operAt l j=none
section
variable {l:List Tok} {i j:Nat} {t s:bA} {ts:List bA}
end
def ownAt(e:Xp)(lf:Nat):Nat:=if ownX e<lf\/7<=ownX e then 8 else ownX e
theorem toks0(e:Xp):fO e 0=gH e:=by unfold fO atForm;rw[if_neg (Nat.not_lt_zero _)]
theorem toks_plain{e:Xp}{lf:Nat}(h:¬ownX e<lf):fO e lf=gH e:=by unfold fO atForm;rw[if_neg h]
structure Behind (l:List Tok) (j own:Nat):Prop where
 dot:isP l j kDot=false
 opn:isP l j iG=false
 oper:∀o,operAt l j=some o->o.2.2<=own
structure Ends (l:List Tok) (j form:Nat):Prop where
 dot:isP l j kDot=false
 opn:isP l j iG=false
 oper:∀o,operAt l j=some o->o.2.2<form
theorem Stops.ends{l:List Tok}{j:Nat}(h:Stops l j)(form:Nat):Ends l j form:=⟨h.dot,h.opn,fun o ho=>by rw[h.oper] at ho;cases ho⟩
def DAt(e:Xp)(lf:Nat):Prop:=∀(form:Nat)(l:List Tok)(i F:Nat),eP l i (fO e lf)->l.length<F+1+i->isP l (i+(fO e lf).length) iG=false->dottedP l (i+(fO e lf).length)=false->
 ∃n,l.length<n+(i+(fO e lf).length)/\expP l (F+1) form i=(dotsP l n e (i+(fO e lf).length)).bnd fun e k=>opsP l (expP l F) form (l.length+1) 8 e k
def AAt(e:Xp)(lf:Nat):Prop:=∀(form:Nat)(l:List Tok)(i F:Nat),form<=ownAt e lf->eP l i (fO e lf)->l.length<F+1+i->Behind l (i+(fO e lf).length) (ownAt e lf)->
 ∃n,l.length<n+(i+(fO e lf).length)/\expP l (F+1) form i=opsP l (expP l F) form n (ownAt e lf) e (i+(fO e lf).length)
def BAt(e:Xp)(form:Nat):Prop:=∀(l:List Tok)(i F:Nat),eP l i (fO e form)->l.length<F+i->Ends l (i+(fO e form).length) form->expP l F form i=.ok (e,i+(fO e form).length)
theorem AAt.b{e:Xp}{form:Nat}(h:AAt e form)(hf:form<=7):BAt e form:=by
 intro l i F hL hF hE;have hr:=hL.room;obtain⟨F,rfl⟩:∃g,F=g+1:=⟨F-1,by omega⟩;have hge:form<=ownAt e form:=by unfold ownAt;split<;>omega
 obtain⟨n,hn,he⟩:=h form l i F hge hL hF ⟨hE.dot,hE.opn,fun o ho=>Nat.le_trans (Nat.le_of_lt (hE.oper o ho)) hge⟩;rw[he];obtain⟨n,rfl⟩:∃k,n=k+1:=⟨n-1,by omega⟩;rw[opsP]
 cases ho:operAt l (i+(fO e form).length) with
 |none=>rfl
 |some o=>
  obtain⟨t,op,fm⟩:=o;simp only;rw[if_pos (.inl (hE.oper _ ho))]
theorem DAt.a{e:Xp}{lf:Nat}(h:DAt e lf)(ho:ownAt e lf=8):AAt e lf:=by
 intro form l i F hf hL hF hB;have hr:=hL.room;obtain⟨n,hn,he⟩:=h form l i F hL hF hB.opn (by unfold dottedP;rw[hB.dot];rfl);obtain⟨n,rfl⟩:∃k,n=k+1:=⟨n-1,by omega⟩;refine⟨l.length+1,by omega,?_⟩;rw[he,dotsP,if_neg (by rw[hB.dot];decide),bnd_ok,ho]
structure Plain1 (l:List Tok) (i:Nat):Prop where
 a:¬isP l i kIf=true
 b:¬isP l i kLet=true
 c:¬isP l i kSet=true
 d:¬isP l i kNot=true
theorem pre_prim{l:List Tok}{i:Nat}(h:Plain1 l i)(rec:RecP)(form:Nat):prefixP l rec form i=(primaryP l rec i).bnd fun e j=>.ok ((e,8),j):=by
 unfold prefixP;rw[if_neg (fun x=>h.a x.2),if_neg (fun x=>h.b x.2),if_neg (fun x=>h.c x.2),if_neg (fun x=>h.d x.2)]
def PAt(e:Xp):Prop:=∀(l:List Tok)(i F:Nat),eP l i (gH e)->l.length<F+1+i->isP l (i+(gH e).length) iG=false->dottedP l (i+(gH e).length)=false->Plain1 l i/\primaryP l (expP l F) i=.ok (e,i+(gH e).length)
theorem rd_d{e:Xp}{form F i j:Nat}{l:List Tok}(h1:Plain1 l i)(h2:primaryP l (expP l F) i=.ok (e,j)):expP l (F+1) form i=(dotsP l (l.length+1) e j).bnd fun e k=>opsP l (expP l F) form (l.length+1) 8 e k:=by
 rw[expP,pre_prim h1,h2,bnd_ok,bnd_ok,if_pos (Nat.le_succ 7)]
theorem PAt.d{e:Xp}(h:PAt e)(lf:Nat)(ho:¬ownX e<lf):DAt e lf:=by
 intro form l i F hL hF h1 h2;rw[toks_plain ho] at hL h1 h2 ⊢;obtain⟨h3,h4⟩:=h l i F hL hF h1 h2;exact⟨l.length+1,by omega,rd_d h3 h4⟩
theorem gt_ne{a b:bA}(h:gtB a b=true):a≠b:=fun e=>by
 subst e;unfold gtB at h;simp at h
end Go.Proofs.YtmpopphjaggeoaaGreatDoor
namespace Go.Proofs.YtmpopphjaggeoaaGreatDoor
theorem BAt.zero{e:Xp}{l:List Tok}{k F:Nat}(h:BAt e 0)(hL:eP l k (gH e))(hF:l.length<F+k)(hs:Stops l (k+(gH e).length)):expP l F 0 k=.ok (e,k+(gH e).length):=by
 have:=h l k F (by rw[toks0];exact hL) hF (by rw[toks0];exact hs.ends 0)
 rwa [toks0] at this
section
variable {l:List Tok} {i:Nat} {s t:bA} {ts:List bA}
theorem eP.later(h:eP l i (t::ts))(hn:bE t=true){last:bA}{any:Bool}(zI:any=true->gtB t last=true):laterP l i last any=.ok (t,i+1):=by
 unfold laterP;rw[if_pos (h.isName hn),h.text]
 cases any with
 |false=>rfl
 |true=>rw[if_neg (by simp[gt_ne (zI rfl)]),if_neg (by simp[zI rfl])]
theorem eP.fresh(h:eP l i (t::ts))(hn:bE t=true){known:bA->Bool}(hk:known t=false):freshP l i known=.ok (t,i+1):=by
 unfold freshP;rw[if_pos (h.isName hn),h.text,if_neg (by rw[hk];decide)]
end
end Go.Proofs.YtmpopphjaggeoaaGreatDoor
namespace Go.Proofs.YtmpopphjaggeoaaGreatDoor
def tsz:List bA->Nat
 |[]=>0
 |t::r=>t.size+1+tsz r
theorem tsz_app:∀a b:List bA,tsz (a++b)=tsz a+tsz b
 |[],b=>by simp[tsz]
 |t::a,b=>by rw[List.cons_append,tsz,tsz,tsz_app a b];omega
theorem tsz_cons(t:bA)(r:List bA):tsz (t::r)=t.size+1+tsz r:=by rw[tsz]
def emitL:Bool->List bA->List UInt8
 |_,[]=>[]
 |ins,t::r=>(if ins then[32] else[])++(t.data.toList++emitL true r)
def insL(ins:Bool)(ts:List bA):Bool:=ins|| !ts.isEmpty
theorem emit_size:∀(ins:Bool)(ts:List bA),(emitL ins ts).length<=tsz ts
 |ins,[]=>by simp[emitL,tsz]
 |ins,t::r=>by
  have h:=emit_size true r;rw[emitL,tsz,List.length_append,List.length_append,size_toList];have:(if ins then[32] else([]:List UInt8)).length<=1:=by split<;>simp
  omega
end Go.Proofs.YtmpopphjaggeoaaGreatDoor
