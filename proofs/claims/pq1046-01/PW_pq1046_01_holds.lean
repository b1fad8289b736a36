import PyProof.Rows.All
import PySem.Syntax
import PySem.Value
import Wide.All
import OpenK.KLine
import KE.KDictOf
import KE.KIsAll
import KE.KRevSl
import PyProof.SliceMore
import PyProof.Rows.Range3
import PyProof.CompFree
import PyProof.WalksMore
import PyProof.InstStoreFacts
import PyProof.ExcInit
import PyProof.ExcClass3
import PyProof.RulesAs
import PyProof.RulesDel
import PyProof.TableCode
import Open.Line
import Lean
import PySem.Challenge.RW_pq1046_01
set_option linter.unusedVariables false
set_option linter.unusedSimpArgs false
set_option maxRecDepth 100000
set_option Elab.async false
set_option genSizeOf false
set_option backward.match.sparseCases false
set_option compiler.reuse false
set_option bootstrap.genMatcherCode false
noncomputable section
set_option tactic.hygienic false
namespace Own.Internal
namespace Mi
open PySem
theorem hide{B:Prop}(h:∀a:Prop,(B->a)->a):B:=h B id
inductive V where
 |none|bool (b:Bool)|int (i:Int)|str (s:Str)|ty (n:Nat)|bi (n:Nat)|old (a:Nat)|ref (i:Nat)
 deriving Inhabited
inductive O where
 |inst (C d:Nat)|list (xs:List V)|tup (xs:List V)|dict (es:List (V×V))|cell (v:Option V)
 deriving Inhabited
set_option genInjectivity false
inductive HT where
 |e
 |n (v:Option O) (l r:HT)
noncomputable def HT.get(f i:Nat)(t:HT):Option O:=@Nat.rec (λa=>Nat->HT->Option O) (λa b=>none) (λa h i=>@HT.rec (λa=>Option O) none λv l r a b=>@Bool.rec (λa=>Option O) (@Bool.rec (λa=>Option O) (h (Nat.div (Nat.sub i 1) 2) l) (h (Nat.div (Nat.sub i 1) 2) r) (Nat.beq (Nat.mod i 2) 0)) v (Nat.beq i 0)) f i t
noncomputable def HT.put(o:O)(f i:Nat)(t:HT):HT:=@Nat.rec (λa=>Nat->HT->HT) (λa t=>t) (λa h i=>@HT.rec (λa=>HT)
 (@Bool.rec (λa=>HT) (@Bool.rec (λa=>HT) (.n none (h (Nat.div (Nat.sub i 1) 2) .e) .e) (.n none .e (h (Nat.div (Nat.sub i 1) 2) .e)) (Nat.beq (Nat.mod i 2) 0)) (.n (some o) .e .e) (Nat.beq i 0))
 λv l r a b=>@Bool.rec (λa=>HT) (@Bool.rec (λa=>HT) (.n v (h (Nat.div (Nat.sub i 1) 2) l) r) (.n v l (h (Nat.div (Nat.sub i 1) 2) r)) (Nat.beq (Nat.mod i 2) 0)) (.n (some o) l r) (Nat.beq i 0)) f i t
structure Hp where
 length:Nat
 t:HT
def Hp.get(G:Hp)(i:Nat):Option O:=bif Nat.ble (Nat.succ i) G.length then G.t.get (i+1) i else none
def Hp.set(G:Hp)(i:Nat)(o:O):Hp:=match G with|⟨n,t⟩=>⟨n,t.put o (i+1) i⟩
def Hp.push(G:Hp)(o:O):Hp:=match G with|⟨n,t⟩=>⟨Nat.succ n,t.put o (n+1) n⟩
inductive R(α:Type) where
 |ok (a:α) (G:Hp)
 |exc (G:Hp)
structure Fn where
 x:Nat
 m:Nat
 ps:List Str
 dflt:List V
 body:List Stmt
 sc:Scope
structure Cl where
 meths:List (Str×Nat)
 init:Nat
 attrs:List Str
inductive Tr(α:Type) where
 |leaf
 |node (k:Nat) (v:α) (l r:Tr α)
noncomputable def Tr.get{a:Type}(k:Nat)(t:Tr a):Option a:=@Tr.rec a (λc=>Option a) none (λb v c d l r=>@Bool.rec (λc=>Option a) (@Bool.rec (λc=>Option a) r l (Nat.ble k b)) (some v) (Nat.beq k b)) t
structure Tb where
 glob:Tr (Str×V)
 fn:Nat->Option Fn
 cls:Nat->Option Cl
 bO:Nat->Option (List V)
 dW:Nat->Option (List (V×V))
 cH:Nat
 base:Nat
 eM:Tr Bool
 arg:Option (Nat×List V)
structure En where
 sc:List (Str×NameKind)
 loc:List (Str×V)
 bF:List (Str×Nat)
inductive Fl where
 |next|brk|cont|ret (v:V)
inductive RS where
 |ok (f:Fl) (loc:List (Str×V)) (G:Hp)
 |exc (loc:List (Str×V)) (G:Hp)
inductive Src where
 |lst (l:Nat)
 |tup (v:V)
 |cY (a c:Int) (n:Nat)
noncomputable def code(s:Str):Nat:=s.cps.toList.foldl (λa c=>a*2097152+c) 1
noncomputable def small(s:Str):Bool:=s.cps.toList.all λc=>Nat.ble (Nat.succ c) 2097152
def sq(a b:Str):Bool:=bif small a then bif small b then Nat.beq (code a) (code b) else false else decide (a=b)
noncomputable abbrev z(x:String):Str:=Str.ofString x
noncomputable def dR:Int->Int->Bool
 |.ofNat a,.ofNat b=>Nat.beq a b
 |.negSucc a,.negSucc b=>Nat.beq a b
 |_,_=>false
noncomputable def dY:Int->Int->Bool
 |.ofNat a,.ofNat b=>Nat.ble a b
 |.negSucc c,.ofNat d=>true
 |.ofNat c,.negSucc d=>false
 |.negSucc a,.negSucc b=>Nat.ble b a
noncomputable def vN:V->Bool
 |.none=>true
 |_=>false
noncomputable def vB(a:Bool):V->Bool
 |.bool b=>a==b
 |_=>false
noncomputable def vI(a:Int):V->Bool
 |.int b=>dR a b
 |_=>false
noncomputable def vS(a:Str):V->Bool
 |.str b=>sq a b
 |_=>false
noncomputable def w5(a:Nat):V->Bool
 |.ty b=>Nat.beq a b
 |_=>false
noncomputable def w6(a:Nat):V->Bool
 |.bi b=>Nat.beq a b
 |_=>false
noncomputable def vO(a:Nat):V->Bool
 |.old b=>Nat.beq a b
 |_=>false
noncomputable def vR(a:Nat):V->Bool
 |.ref b=>Nat.beq a b
 |_=>false
def cM(a b:V):Bool:=@V.rec (λc=>V->Bool) vN vB vI vS w5 w6 vO vR a b
noncomputable def lk{a:Type}(x:Str)(l:List (Str×a)):Option a:=@List.rec (Str×a) (λb=>Option a) none (λe b i=>@Prod.rec Str a (λb=>Option a) (λy v=>@Bool.rec (λb=>Option a) i (some v) (sq x y)) e) l
noncomputable def bd{a b:Type}(x:Option (R a))(f:a->Hp->Option (R b)):Option (R b):=@Option.rec (R a) (λc=>Option (R b)) .none (@R.rec a (λc=>Option (R b)) f λG=>some (.exc G)) x
noncomputable def lift(Y:En){a:Type}(x:Option (R a))(f:a->Hp->Option RS):Option RS:=@Option.rec (R a) (λb=>Option RS) .none (@R.rec a (λb=>Option RS) f λG=>some (.exc Y.loc G)) x
noncomputable def bX{a:Type}(b:Option Bool)(x y:Option a):Option a:=match b with
 |some true=>x
 |some false=>y
 |.none=>.none
noncomputable def put(x:Str)(v:V)(l:List (Str×V)):List (Str×V):=@List.rec (Str×V) (λa=>List (Str×V)) [(x,v)] (λe r i=>@Prod.rec Str V (λa=>List (Str×V)) (λy u=>@Bool.rec (λa=>List (Str×V)) ((y,u)::i) ((y,v)::r) (sq x y)) e) l
noncomputable def cb(k:V)(l:List (V×V)):Option V:=@List.rec (V×V) (λa=>Option V) .none (λe a i=>@Bool.rec (λa=>Option V) i (some e.2) (cM e.1 k)) l
noncomputable def dput(k v:V):List (V×V)->List (V×V)
 |[]=>[(k,v)]
 |e::r=>bif cM e.1 k then(e.1,v)::r else e::dput k v r
def dp(T:Tb)(x:Str):Option V:=match T.glob.get (code x) with
 |some (y,v)=>bif sq x y then some v else .none
 |.none=>.none
structure Bn where
 f:Tb->List (Str×V)->List (Str×Nat)->Hp->Option V
noncomputable def rS(x:Str)(k:Option NameKind):Bn:=match k with
 |some .local=>⟨λa l b d=>lk x l⟩
 |some .cell=>⟨λa b c G=>match lk x c with
  |some i=>match G.get i with
   |some (.cell v)=>v
   |_=>.none
  |.none=>.none⟩
 |some .globalImplicit=>⟨λT a b d=>dp T x⟩
 |_=>⟨λa b d e=>.none⟩
def name(T:Tb)(Y:En)(G:Hp)(x:Str):Option V:=@En.rec (λa=>Option V) (λs l c=>(rS x (lk x s)).f T l c G) Y
noncomputable def fK:Option V->Option V
 |some (.bi a)=>.none
 |r=>r
def eY(T:Tb)(C:Nat)(n:Str):Bool:=match T.cls C with
 |some c=>c.attrs.any (sq n)
 |.none=>false
def dq(T:Tb)(G:Hp)(v:V)(n:Str):Option V:=match v with
 |.ref i=>match G.get i with
  |some (.inst C d)=>if eY T C n then match G.get d with
   |some (.dict e)=>fK (cb (.str n) e)
   |_=>.none
   else .none
  |_=>.none
 |_=>.none
noncomputable def fL(a:Nat):Option Nat:=bif Nat.beq a 374 then some 368 else bif Nat.beq a 377 then some 368 else bif Nat.beq a 380 then some 368 else .none
noncomputable def eb:Option O->Option Bool
 |some (.tup a)=>.none
 |some (.cell a)=>.none
 |some a=>some false
 |.none=>.none
def eZ(G:Hp)(a b:V):Option Bool:=match a,b with
 |.ref i,.ref j=>if Nat.beq i j then(G.get i).map λc=>true else(eb (G.get i)).bind λc=>eb (G.get j)
 |.old a,.old b=>if Nat.beq a b then some true else if(fL a).isSome&&(fL b).isSome then some false else .none
 |.ref i,.old a=>if(fL a).isSome then eb (G.get i) else .none
 |.old a,.ref i=>if(fL a).isSome then eb (G.get i) else .none
 |.none,.none=>some true
 |.bool a,.bool b=>some (a==b)
 |.none,.ref c=>some false
 |.ref c,.none=>some false
 |.none,.old c=>some false
 |.old c,.none=>some false
 |.int c,.old d=>some false
 |.old c,.int d=>some false
 |.int c,.none=>some false
 |.none,.int c=>some false
 |.str c,.none=>some false
 |.none,.str c=>some false
 |_,_=>.none
def fM:V->V->Option Bool
 |.none,.none=>some true
 |.bool a,.bool b=>some (a==b)
 |.int a,.int b=>some (dR a b)
 |.str a,.str b=>some (sq a b)
 |.none,.str _|.str c,.none=>some false
 |_,_=>.none
noncomputable def gX:List V->List V->Option Bool
 |[],[]=>some true
 |a::x,b::y=>(fM a b).bind λp=>(gX x y).map (p&&·)
 |[],c::d=>some false
 |c::d,[]=>some false
def ec(G:Hp)(a b:V):Option Bool:=match a,b with
 |.ref i,.ref j=>match G.get i,G.get j with
  |some (.list xs),some (.list ys)=>if Nat.beq xs.length ys.length then gX xs ys else some false
  |_,_=>.none
 |a,b=>fM a b
noncomputable def eqs(k:V):List V->Option (List Bool)
 |[]=>some []
 |x::r=>(fM x k).bind λb=>(eqs k r).map (b::·)
def jD(k:V)(xs:List V):Option Bool:=(eqs k xs).map (·.any id)
noncomputable def isKey:V->Bool
 |.int _|.str _|.none=>true
 |_=>false
def inD(k:V)(e:List (V×V)):Bool:=(cb k e).isSome
noncomputable def iY(f:Int->Int->Bool)(a b:V):Option Bool:=match a with
 |.int x=>match b with
  |.int y=>some (f x y)
  |_=>.none
 |_=>.none
def kD(a:V)(o:O):Option Bool:=match o with
 |.list xs=>jD a xs
 |.dict e=>if isKey a then some (inD a e) else .none
 |_=>.none
def kE(T:Tb)(G:Hp)(a b:V):Option Bool:=match b with
    |.ref i=>(G.get i).bind (kD a)
    |.old d=>if isKey a then(T.dW d).map (inD a) else .none
    |_=>.none
def cmp(T:Tb)(G:Hp)(o:CmpOp)(a b:V):Option Bool:=match o with
 |.Is=>eZ G a b
 |.IsNot=>(eZ G a b).map (!·)
 |.Eq=>ec G a b
 |.NotEq=>(ec G a b).map (!·)
 |.Lt=>iY (λx y=>!dY y x) a b
 |.LtE=>iY dY a b
 |.Gt=>iY (λx y=>!dY x y) a b
 |.GtE=>iY (λx y=>dY y x) a b
 |.In=>kE T G a b
 |_=>.none
noncomputable def bS(n:Nat):Bool:=Nat.ble (Nat.succ n) 4096
def inR:Int->Bool
 |.ofNat n=>bS n
 |_=>false
noncomputable def isAdd:Operator->Bool
 |.Add=>true
 |_=>false
noncomputable def ed:Option O->Option (List V)
 |some (.list xs)=>some xs
 |_=>.none
noncomputable def gE:Option O->Option (List V)
 |some (.tup xs)=>some xs
 |_=>.none
noncomputable def fY{a:Type}(c:Bool)(x:a):Option a:=bif c then some x else .none
def binI(o:Operator)(x y:Int):Option Int:=match o with
 |.Add=>some (x+y)
 |.Sub=>some (x-y)
 |.Mult=>fY (dR x 2) (2*y)
 |.Mod=>fY (!dR y 0) (Int.fmod x y)
 |.FloorDiv=>fY (!dR y 0&&Nat.ble y.natAbs 1000000000) (Int.fdiv x y)
 |.Pow=>fY (dR x 10&&dR y 16) 10000000000000000
 |_=>.none
def fZ(xs ys:Option (List V)):Option (List V):=xs.bind λxs=>ys.bind λys=>fY (bS (xs.length+ys.length)) (xs++ys)
def f7(xs ys:Option (List V)):Option (List V):=xs.bind λxs=>ys.bind λys=>fY (bS (xs.length+ys.length)&&(!xs.isEmpty&&!ys.isEmpty)) (xs++ys)
def ml(p:Operator)(G:Hp)(a b:V)(o:Nat->Option (List V)):Option (V×Hp):=match a with
 |.int x=>(match b with|.int y=>(binI p x y).map λz=>(.int z,G)|_=>.none)
 |.ref i=>(match b with|.ref j=>bif isAdd p then(fZ (ed (G.get i)) (ed (G.get j))).map λl=>(.ref G.length,G.push (.list l)) else .none|_=>.none)
 |.old t=>(match b with|.ref j=>bif isAdd p then(f7 (o t) (gE (G.get j))).map λl=>(.ref G.length,G.push (.tup l)) else .none|_=>.none)
 |_=>.none
def bin(c:Operator)(G:Hp)(a b:V)(o:Nat->Option (List V)):Option (R V):=(ml c G a b o).map λp=>.ok p.1 p.2
noncomputable def truth:V->Option Bool
 |.bool b=>some b
 |_=>.none
def fN(T:Tb)(G:Hp):V->Option (List V)
 |.ref i=>match G.get i with
  |some (.list xs)=>some xs
  |some (.tup xs)=>some xs
  |_=>.none
 |.old t=>T.bO t
 |_=>.none
def sub(T:Tb)(G:Hp)(o i:V):Option V:=match i with
 |.int k=>if inR k then(fN T G o).bind λxs=>xs[k.toNat]? else .none
 |k=>match o with
  |.ref d=>match G.get d with
   |some (.dict e)=>cb k e
   |_=>.none
  |.old d=>(T.dW d).bind (cb k)
  |_=>.none
noncomputable def const:Const->Option V
 |.none=>some .none
 |.bool b=>some (.bool b)
 |.int i=>some (.int i)
 |.str s=>some (.str s)
 |_=>.none
noncomputable def kF:O->Option Nat
 |.inst C a=>if Nat.ble 8 C then some C else .none
 |.list a=>some 5
 |.tup a=>some 6
 |.dict a=>some 7
 |_=>.none
def e_(G:Hp):V->Option Nat
 |.none=>some 1
 |.bool b=>some 2
 |.int b=>some 3
 |.str b=>some 4
 |.old a=>fL a
 |.ref i=>(G.get i).bind kF
 |_=>.none
noncomputable def jE:V->Option Nat
 |.old D=>if Nat.ble 8 D&&Nat.ble D 4095 then some D else .none
 |.ty 0=>some 5
 |.ty 2=>some 4
 |.ty 3=>some 3
 |.ty 4=>some 2
 |_=>.none
def ey(T:Tb)(G:Hp)(v c:V):Option Bool:=match e_ G v with
 |some t=>match jE c with
  |some d=>T.eM.get (t*4096+d)
  |.none=>.none
 |.none=>.none
noncomputable def isAny(T:Tb)(G:Hp)(v:V):List V->Option Bool
 |[]=>some false
 |c::r=>match ey T G v c with
  |some true=>some true
  |some false=>isAny T G v r
  |.none=>.none
def fh(T:Tb)(G:Hp)(v c:V):Option Bool:=match c with
 |.ref i=>match G.get i with
  |some (.tup cs)=>if cs.isEmpty then .none else isAny T G v cs
  |_=>.none
 |c=>ey T G v c
def idx(k:V)(xs:List V):Option Nat:=(eqs k xs).bind (·.findIdx? id)
def iZ(v:V)(G:Hp):Option (R V):=match v with
 |.ref i=>match G.get i with
  |some (.list xs)=>if bS xs.length then some (.ok (.int (.ofNat xs.length)) G) else .none
  |some (.tup xs)=>if bS xs.length then some (.ok (.int (.ofNat xs.length)) G) else .none
  |some (.dict e)=>if bS e.length then some (.ok (.int (.ofNat e.length)) G) else .none
  |_=>.none
 |_=>.none
noncomputable def oZ(v:V)(G:Hp):Option (R V):=match v with
 |.int x=>some (.ok (.int (.ofNat x.natAbs)) G)
 |_=>.none
def iw(v:V)(G:Hp):Option (R V):=match v with
 |.ref i=>match G.get i with
  |some (.list xs)=>if bS xs.length then some (.ok (.ref G.length) (G.push (.list xs))) else .none
  |_=>.none
 |_=>.none
def ix(v:V)(G:Hp):Option (R V):=match v with
 |.ref i=>match G.get i with
  |some (.dict e)=>if bS e.length then some (.ok (.ref G.length) (G.push (.dict e))) else .none
  |_=>.none
 |_=>.none
def cF(T:Tb)(f:V)(a:List V)(G:Hp):Option (R V):=match f with
 |.bi 0=>match a with
  |[v]=>iZ v G
  |_=>.none
 |.bi 1=>match a with
  |[v]=>oZ v G
  |_=>.none
 |.bi 2=>match a with
  |[v,c]=>(fh T G v c).map λb=>.ok (.bool b) G
  |_=>.none
 |.ty 0=>match a with
  |[v]=>iw v G
  |_=>.none
 |.ty 1=>match a with
  |[v]=>ix v G
  |_=>.none
 |_=>.none
def f9(a:Str):Nat:=bif sq a (z "append") then 1 else bif sq a (z "pop") then 2 else bif sq a (z "index") then 3 else bif sq a (z "get") then 4 else 0
def i0(i:Nat)(xs a:List V)(G:Hp):Option (R V):=match a with
 |[v]=>if bS xs.length then some (.ok .none (G.set i (.list (xs++[v])))) else .none
 |_=>.none
def i5(i:Nat)(xs a:List V)(G:Hp):Option (R V):=match a with
 |[]=>if bS xs.length then match xs.getLast? with
   |some v=>some (.ok v (G.set i (.list xs.dropLast)))
   |.none=>.none
   else .none
 |[.int k]=>if dR k 0&&bS xs.length then match xs with
    |v::xs=>some (.ok v (G.set i (.list xs)))
    |[]=>.none
    else .none
 |_=>.none
def gF(xs a:List V)(G:Hp):Option (R V):=match a with
 |[k]=>if bS xs.length then(idx k xs).map λm=>.ok (.int (.ofNat m)) G else .none
 |_=>.none
def jF(e:List (V×V))(a:List V)(G:Hp):Option (R V):=match a with
 |[k,d]=>if isKey k then some (.ok ((cb k e).getD d) G) else .none
 |_=>.none
def cf(T:Tb)(o:V)(n:Nat)(a:List V)(G:Hp):Option (R V):=match o with
 |.ref i=>match G.get i with
  |some (.list xs)=>match n with
   |1=>i0 i xs a G
   |2=>i5 i xs a G
   |3=>gF xs a G
   |_=>.none
  |some (.dict e)=>match n with
   |4=>jF e a G
   |_=>.none
  |_=>.none
 |.old t=>match n with
  |3=>match T.bO t with
   |some xs=>gF xs a G
   |.none=>.none
  |_=>.none
 |_=>.none
noncomputable def kG(n:Nat):Bool:=Nat.ble (Nat.succ n) 900
def fj(G:Hp)(o i v:V):Option Hp:=match o with
 |.ref d=>match G.get d with
  |some (.list xs)=>match i with
   |.int k=>if inR k&&Nat.ble (Nat.succ k.toNat) xs.length then some (G.set d (.list (xs.set k.toNat v))) else .none
   |_=>.none
  |some (.dict e)=>if kG e.length&&isKey i then some (G.set d (.dict (dput i v e))) else .none
  |_=>.none
 |_=>.none
def dQ(T:Tb)(G:Hp)(o:V)(n:Str)(v:V):Option Hp:=match o with
 |.ref i=>match G.get i with
  |some (.inst C d)=>if eY T C n then match G.get d with
   |some (.dict e)=>if kG e.length then some (G.set d (.dict (dput (.str n) v e))) else .none
   |_=>.none
   else .none
  |_=>.none
 |_=>.none
noncomputable def kH:V->Option Int
 |.int n=>some n
 |_=>.none
def o8(n:Int):Option Src:=if inR n then some (.cY 0 1 n.toNat) else .none
def o9(a b c:Int):Option Src:=if dR b (-1)&&dR c (-1)&&dY (-1) a&&dY a 4095 then some (.cY a (-1) (a+1).toNat) else .none
def gG:List V->Option Src
 |[a]=>(kH a).bind o8
 |[a,b,c]=>(kH a).bind λa=>(kH b).bind λb=>(kH c).bind (o9 a b)
 |_=>.none
def cz(T:Tb)(G:Hp)(s:Src)(i:Nat):Option (Option V):=match s with
 |.lst l=>match G.get l with
  |some (.list xs)=>some xs[i]?
  |_=>.none
 |.tup v=>match v with
  |.ref j=>match G.get j with
   |some (.tup xs)=>some xs[i]?
   |_=>.none
  |.old t=>match T.bO t with
   |some xs=>some xs[i]?
   |.none=>.none
  |_=>.none
 |.cY a c n=>some (bif Nat.ble (Nat.succ i) n then some (.int (a+c*.ofNat i)) else .none)
structure Bc where
 f:Hp->List (Str×Nat)->Hp×List (Str×Nat)
noncomputable def w7(l:List (Str×NameKind)):Bc:=@List.rec (Str×NameKind) (λa=>Bc) ⟨λG cs=>(G,cs)⟩ (λp a i=>match p.2 with
 |.cell=>⟨λG cs=>i.f (G.push (.cell .none)) ((p.1,G.length)::cs)⟩
 |_=>i) l
noncomputable def gH(l:List (Str×NameKind))(G:Hp)(cs:List (Str×Nat)):Hp×List (Str×Nat):=(w7 l).f G cs
structure w8 where
 f:List (Str×NameKind)->List (Str×V)->List (Str×Nat)->Hp->V->Option (En×Hp)
noncomputable def stC(x:Str)(k:Option NameKind):w8:=match k with
 |some .local=>⟨λs l c G v=>some (⟨s,put x v l,c⟩,G)⟩
 |some .cell=>⟨λs l c G v=>match lk x c with
  |some i=>match G.get i with
   |some (.cell a)=>some (⟨s,l,c⟩,G.set i (.cell (some v)))
   |_=>.none
  |.none=>.none⟩
 |_=>⟨λa b d e f=>.none⟩
def bZ(Y:En)(G:Hp)(x:Str)(v:V):Option (En×Hp):=@En.rec (λa=>Option (En×Hp)) (λs l c=>(stC x (lk x s)).f s l c G v) Y
noncomputable def cV:List (Str×V)->En->Hp->Option (En×Hp)
 |[],Y,G=>some (Y,G)
 |(x,v)::r,Y,G=>match bZ Y G x v with
  |some (Y,G)=>cV r Y G
  |.none=>.none
def bM(Y:En)(s:Scope):List (Str×NameKind):=s.names.map λp=>match p.2 with
 |.free=>(p.1,match lk p.1 Y.sc with|some .cell=>.cell|_=>.free)
 |k=>(p.1,k)
def i6(Y:En)(s:Scope):Bool:=(match s.kind with|.function=>true|_=>false)&&s.names.all λp=>match p.2 with
 |.free=>(match lk p.1 Y.sc with|some .cell=>true|_=>false)&&(lk p.1 Y.bF).isSome
 |.cell=>false
 |.local=>match lk p.1 s.names with|some .local=>true|_=>false
 |_=>true
structure Fs where
 ev:En->Expr->Hp->Option (R V)
 bL:En->List Expr->Hp->Option (R (List V))
 fk:En->BoolOp->List Expr->Hp->Option (R V)
 tests:En->List Expr->Hp->Option (R Bool)
 comp:En->Expr->Str->List Expr->Src->Nat->List V->Hp->Option (R (List V))
 dJ:V->List V->Hp->Option (R V)
 call:Nat->List V->Hp->Option (R V)
 ex:En->Stmt->Hp->Option RS
 ax:En->List Stmt->Hp->Option RS
 cA:En->Expr->List Stmt->Hp->Option RS
 fr:En->Str->List Stmt->Src->Nat->Hp->Option RS
inductive Sh where
 |const (c:Const)|name (x:Str)|bool (op:BoolOp) (vs:List Expr)|bin (l:Expr) (op:Operator) (r:Expr)|not (x:Expr)|neg (k:Int)
 |fO (t b o:Expr)|iy|list (es:List Expr)|tup (es:List Expr)|cmp (l:Expr) (op:CmpOp) (r:Expr)|i7 (l:Expr) (op:CmpOp) (r:Expr) (op2:CmpOp) (r2:Expr)
 |attr (o:Expr) (a:Str)|from(o:Expr) (k:Int)|jG (o:Expr) (k:Int)|rev (o:Expr)|sub (o i:Expr)|fm (o:Expr) (a:Str) (as:List Expr)|call (f:Expr) (as:List Expr)
 |lc (elt:Expr) (x:Str) (it:Expr) (ifs:List Expr) (sc:Scope)|no
noncomputable def fo:Expr->Bool
 |.Call (.Name a b) [] [] c=>false
 |_=>true
noncomputable def cZ:Expr->Bool
 |.Set ..=>false
 |_=>true
noncomputable def notStar:Expr->Bool
 |.Starred ..=>false
 |_=>true
def ee(a:List Expr):Bool:=a.all notStar&&Nat.ble (Nat.succ a.length) 30
def cQ(x:Str):Bool:=!sq x (z "__debug__")
def shape:Expr->Sh
 |.Constant c D E=>.const c
 |.Name x D=>if cQ x then .name x else .no
 |.BoolOp p w D=>.bool p w
 |.BinOp l p r D=>.bin l p r
 |.UnaryOp p x D=>match p with
  |.Not=>.not x
  |.USub=>match x with
   |.Constant (.int k) D E=>.neg k
   |_=>.no
  |_=>.no
 |.IfExp t b o D=>.fO t b o
 |.Dict m w D=>match m,w with
  |[],[]=>.iy
  |_,_=>.no
 |.List e D=>if e.all notStar then .list e else .no
 |.Tuple e D E=>if e.all notStar then .tup e else .no
 |.Compare l q B D=>match q,B with
  |[p],[r]=>if cZ r then .cmp l p r else .no
  |[p,n],[r,z]=>if cZ r&&cZ z then .i7 l p r n z else .no
  |_,_=>.no
 |.Attribute o a D=>if fo o then .attr o a else .no
 |.Subscript o i D=>match i with
  |.Slice l u s D=>match l,u,s with
   |some (.Constant (.int k) D E),.none,.none=>.from o k
   |.none,some (.Constant (.int k) D E),.none=>.jG o k
   |.none,.none,some (.UnaryOp .USub (.Constant (.int 1) D E) F)=>.rev o
   |_,_,_=>.no
  |i=>.sub o i
 |.Call f g m v=>match m with
  |[]=>if ee g then match f with
   |.Attribute o a d=>if fo o&&Nat.beq d.endLine v.line then .fm o a g else .no
   |f=>.call f g
   else .no
  |_=>.no
 |.ListComp h A C D=>match A with
  |[⟨.Name x D,y,j,0⟩]=>if cZ y then .lc h x y j C else .no
  |_=>.no
 |_=>.no
noncomputable def isCall:Expr->Bool
 |.Call ..=>true
 |_=>false
noncomputable def fP:Expr->Bool
 |.ListComp ..=>true
 |.SetComp ..=>true
 |.DictComp ..=>true
 |_=>false
inductive ShS where
 |expr (e:Expr)|pass|ret (e:Expr)|kI (x:Str) (e:Expr)|jH (x:Str) (elt:Expr) (y:Str) (it:Expr) (ifs:List Expr) (sc:Scope)|jI (o:Expr) (a:Str) (e:Expr)|jJ (o i e:Expr)
 |i8 (xs:List Str) (e:Expr)|fO (t:Expr) (b o:List Stmt)|cA (t:Expr) (b:List Stmt)|for(x:Str) (it:Expr) (b:List Stmt)
 |raise (c:Str) (as:List Expr)
 |kJ (b:List Stmt) (c x:Str)
 |kK (b:List Stmt) (c o a1 a2 y n:Str)
 |no
noncomputable def w9:Expr->Option Str
 |.Name x a=>some x
 |_=>.none
noncomputable def namesOf:List Expr->Option (List Str)
 |[]=>some []
 |e::r=>(w9 e).bind λx=>(namesOf r).map (x::·)
noncomputable def kM(l:Nat):List Expr->Bool
 |[]=>true
 |.Name a p::r=>Nat.beq p.line l&&kM l r
 |_=>false
noncomputable def apart:List Str->Bool
 |[]=>true
 |x::r=>!r.any (sq x)&&apart r
def i9(n:Nat):Expr->Bool
 |.Call ..=>true
 |.Tuple (.Call ..::r) a b=>Nat.beq (r.length+1) n
 |.Tuple (.Subscript (.Name x a) b c::r) d e=>cQ x&&Nat.beq (r.length+1) n
 |.Tuple (.Compare ..::r) a b=>Nat.beq (r.length+1) n
 |_=>false
noncomputable def kN(e:Expr)(k:Str->ShS):ShS:=match e with
 |.Name x a=>k x
 |_=>.no
noncomputable def o_(e:Expr)(k:Expr->Str->ShS):ShS:=match e with
 |.Attribute o a b=>k o a
 |_=>.no
noncomputable def rT(s:Stmt)(k:Expr->Expr->ShS):ShS:=match s with
 |.Assign ts e a=>(match ts with
  |[t]=>k t e
  |_=>.no)
 |_=>.no
noncomputable def rU(s:Stmt)(k:Expr->ShS):ShS:=match s with
 |.Raise e c a=>(match c with
  |.none=>(match e with
   |some e=>k e
   |.none=>.no)
  |some a=>.no)
 |_=>.no
noncomputable def rV(e:Expr)(k:ShS):ShS:=match e with
 |.Constant c a b=>(match c with
  |.none=>k
  |_=>.no)
 |_=>.no
noncomputable def rW(b:List Stmt)(c:Str)(n:Option Str)(h:List Stmt):ShS:=match h with
 |[]=>.no
 |s::r=>rT s λt e=>match n with
  |.none=>(match r with
   |[]=>kN t λx=>rV e (.kJ b c x)
   |g::i=>.no)
  |some n=>match r with
   |[]=>.no
   |s2::r=>match r with
    |[]=>o_ t λt d=>o_ t λo a=>kN o λo=>kN e λy=>rU s2 λz=>kN z λf=>if sq n f&&cQ o&&cQ y&&cQ n then .kK b c o a d y n else .no
    |g::i=>.no
def gY:Stmt->ShS
 |.Expr e v=>if isCall e then .expr e else .no
 |.Pass v=>.pass
 |.Return e v=>match e with
  |some e=>.ret e
  |.none=>.no
 |.Assign ts e u=>match ts with
  |[t]=>match t with
   |.Name x p=>match e with
    |.ListComp l k h s=>match k with
     |[⟨.Name y v,d,f,0⟩]=>if cZ d&&Nat.beq p.line s.line&&!h.names.any (λq=>sq q.1 x) then .jH x l y d f h else .no
     |_=>.no
    |e=>if !fP e then .kI x e else .no
   |.Attribute o a v=>if fo o&&!fP e then .jI o a e else .no
   |.Subscript o i v=>if !fP e then .jJ o i e else .no
   |.Tuple ts v w=>match namesOf ts with
    |some xs=>if(Nat.beq xs.length 2||Nat.beq xs.length 3)&&apart xs&&i9 xs.length e&&kM ((ts.head?.map (·.pos.line)).getD 0) ts then .i8 xs e else .no
    |.none=>.no
   |_=>.no
  |_=>.no
 |.If t b o v=>.fO t b o
 |.While t b o v=>match o with
  |[]=>.cA t b
  |_=>.no
 |.For t d b o v=>match t with
  |.Name x v=>match o with
   |[]=>if cZ d then .for x d b else .no
   |_=>.no
  |_=>.no
 |.Raise e c v=>match e,c with
  |some (.Call (.Name c v) g [] w),.none=>if ee g then .raise c g else .no
  |_,_=>.no
 |.Try b r o j v=>match r,o,j with
  |[.ExceptHandler (some (.Name c v)) n m w],[],[]=>rW b c n m
  |_,_,_=>.no
 |_=>.no
noncomputable def kO(v:V)(G:Hp):Option (R V):=some (.ok v G)
def kP(T:Tb)(F:Fs)(Y:En)(t b o:Expr)(G:Hp):Option (R V):=bd (F.ev Y t G) λa G=>bX (truth a) (F.ev Y b G) (F.ev Y o G)
def kQ(T:Tb)(F:Fs)(Y:En)(l:Expr)(o:CmpOp)(r:Expr)(p:CmpOp)(e:Expr)(G:Hp):Option (R V):=
 bd (F.ev Y l G) λa G=>bd (F.ev Y r G) λb G=>bX (cmp T G o a b) (bd (F.ev Y e G) λc G=>(cmp T G p b c).map λd=>.ok (.bool d) G) (kO (.bool false) G)
def gZ(v:V)(k:Int)(G:Hp):Option (R V):=match v with
 |.ref i=>match G.get i with
  |some (.list xs)=>if inR k&&bS xs.length then some (.ok (.ref G.length) (G.push (.list (xs.drop k.toNat)))) else .none
  |_=>.none
 |_=>.none
def iz(T:Tb)(v:V)(k:Int)(G:Hp):Option (R V):=match v with
 |.ref i=>match G.get i with
  |some (.list xs)=>if inR k&&bS xs.length then some (.ok (.ref G.length) (G.push (.list (xs.take k.toNat)))) else .none
  |_=>.none
 |.old a=>match T.arg with
  |some p=>if Nat.beq a p.1&&(inR k&&bS p.2.length) then some (.ok (.ref G.length) (G.push (.list (p.2.take k.toNat)))) else .none
  |.none=>.none
 |_=>.none
def g9(v:V)(G:Hp):Option (R V):=match v with
 |.ref i=>match G.get i with
  |some (.list xs)=>if bS xs.length then some (.ok (.ref G.length) (G.push (.list xs.reverse))) else .none
  |_=>.none
 |_=>.none
def dZ(T:Tb)(C d:Nat)(a:Str)(G:Hp):Option Nat:=match G.get d with
 |some (.dict e)=>match T.cls C with
  |some k=>match lk a k.meths with
   |some f=>match cb (.str a) e with
    |.none=>some f
    |_=>.none
   |.none=>.none
  |.none=>.none
 |_=>.none
def fQ(T:Tb)(F:Fs)(Y:En)(v:V)(a:Str)(b:List Expr)(G:Hp):Option (R V):=match v with
 |.ref i=>match G.get i with
  |some (.inst C d)=>match dZ T C d a G with
   |some f=>bd (F.bL Y b G) λs G=>F.call f (v::s) G
   |.none=>.none
  |some (.list c)=>match f9 a with
   |1=>bd (F.bL Y b G) λs G=>cf T v 1 s G
   |2=>bd (F.bL Y b G) λs G=>cf T v 2 s G
   |3=>bd (F.bL Y b G) λs G=>cf T v 3 s G
   |_=>.none
  |some (.dict c)=>match f9 a with
   |4=>bd (F.bL Y b G) λs G=>cf T v 4 s G
   |_=>.none
  |_=>.none
 |.old t=>match T.bO t with
  |some c=>match f9 a with
   |3=>bd (F.bL Y b G) λs G=>cf T v 3 s G
   |_=>.none
  |.none=>.none
 |_=>.none
noncomputable def rX:Sh->Option Expr
 |.call f a=>some f
 |_=>.none
noncomputable def rY:Sh->Option Str
 |.name f=>some f
 |_=>.none
def rZ(e:Expr):Bool:=((rX (shape e)).bind λf=>rY (shape f)).any (sq · (z "range"))
noncomputable def w_(e:Expr):List Expr:=match e with
 |.Call b a c d=>a
 |_=>[]
def kR(T:Tb)(Y:En):Bool:=match lk (z "range") Y.sc with
 |some .globalImplicit=>match dp T (z "range") with
  |some v=>cM v (.ty 5)
  |.none=>false
 |_=>false
def srcOf(T:Tb)(G:Hp)(v:V):Option (R Src):=match v with
 |.ref i=>match G.get i with
  |some (.list a)=>some (.ok (.lst i) G)
  |some (.tup a)=>some (.ok (.tup v) G)
  |_=>.none
 |.old t=>match T.bO t with
  |some a=>some (.ok (.tup v) G)
  |.none=>.none
 |_=>.none
def items(T:Tb)(F:Fs)(Y:En)(e:Expr)(G:Hp):Option (R Src):=
 if rZ e then(if kR T Y then bd (F.bL Y (w_ e) G) λs G=>(gG s).map λl=>.ok l G else .none)
 else bd (F.ev Y e G) λv G=>srcOf T G v
def gI(T:Tb)(F:Fs)(Y:En)(e:Expr)(x:Str)(t:Expr)(i:List Expr)(s:Scope)(G:Hp):Option (R V):=
 if i6 Y s then bd (items T F Y t G) λxs G=>bd (F.comp ⟨bM Y s,[],Y.bF⟩ e x i xs 0 [] G) λv G=>some (.ok (.ref G.length) (G.push (.list v.reverse)))
 else .none
noncomputable def callable(T:Tb):V->Bool
 |.old a=>(T.fn a).isSome||(T.cls a).isSome
 |.bi b=>true
 |.ty b=>true
 |_=>false
structure Bx where
 f:Tb->Fs->En->Hp->Option (R V)
noncomputable def r9(s:Sh):Bx:=match s with
 |.const c=>⟨λT F Y G=>(const c).map λv=>.ok v G⟩
 |.name x=>⟨λT F Y G=>(name T Y G x).map λv=>.ok v G⟩
 |.bool p d=>⟨λT F Y G=>F.fk Y p d G⟩
 |.bin l p r=>⟨λT F Y G=>bd (F.ev Y l G) λa G=>bd (F.ev Y r G) λb G=>bin p G a b T.bO⟩
 |.not x=>⟨λT F Y G=>bd (F.ev Y x G) λa G=>(truth a).map λb=>.ok (.bool (!b)) G⟩
 |.neg k=>⟨λT F Y G=>kO (.int (-k)) G⟩
 |.fO t b o=>⟨λT F Y G=>kP T F Y t b o G⟩
 |.iy=>⟨λT F Y G=>some (.ok (.ref G.length) (G.push (.dict [])))⟩
 |.list h=>⟨λT F Y G=>bd (F.bL Y h G) λd G=>if bS d.length then some (.ok (.ref G.length) (G.push (.list d))) else .none⟩
 |.tup h=>⟨λT F Y G=>bd (F.bL Y h G) λd G=>if bS d.length&&!d.isEmpty then some (.ok (.ref G.length) (G.push (.tup d))) else .none⟩
 |.cmp l p r=>⟨λT F Y G=>bd (F.ev Y l G) λa G=>bd (F.ev Y r G) λb G=>(cmp T G p a b).map λc=>.ok (.bool c) G⟩
 |.i7 l p r m u=>⟨λT F Y G=>kQ T F Y l p r m u G⟩
 |.attr o a=>⟨λT F Y G=>bd (F.ev Y o G) λv G=>(dq T G v a).map λx=>.ok x G⟩
 |.from o k=>⟨λT F Y G=>bd (F.ev Y o G) λv G=>gZ v k G⟩
 |.jG o k=>⟨λT F Y G=>bd (F.ev Y o G) λv G=>iz T v k G⟩
 |.rev o=>⟨λT F Y G=>bd (F.ev Y o G) λv G=>g9 v G⟩
 |.sub o i=>⟨λT F Y G=>bd (F.ev Y o G) λv G=>bd (F.ev Y i G) λk G=>(sub T G v k).map λx=>.ok x G⟩
 |.fm o a e=>⟨λT F Y G=>bd (F.ev Y o G) λv G=>fQ T F Y v a e G⟩
 |.call f e=>⟨λT F Y G=>bd (F.ev Y f G) λn G=>if callable T n then bd (F.bL Y e G) λd G=>F.dJ n d G else .none⟩
 |.lc g x q j w=>⟨λT F Y G=>gI T F Y g x q j w G⟩
 |.no=>⟨λT F Y G=>.none⟩
def mq(T:Tb)(F:Fs)(Y:En)(s:Sh)(G:Hp):Option (R V):=(r9 s).f T F Y G
def pd(T:Tb)(F:Fs)(Y:En)(e:Expr)(G:Hp):Option (R V):=(r9 (shape e)).f T F Y G
def kT(T:Tb)(F:Fs)(Y:En)(s:List Expr)(G:Hp):Option (R (List V)):=@List.rec Expr (λb=>Option (R (List V))) (some (.ok [] G)) (λe r b=>bd (F.ev Y e G) λv G=>bd (F.bL Y r G) λa G=>some (.ok (v::a) G)) s
def iA(T:Tb)(F:Fs)(Y:En)(o:BoolOp)(s:List Expr)(G:Hp):Option (R V):=match s with
    |[]=>.none
    |e::r=>match r with
     |[]=>bd (F.ev Y e G) λv G=>(truth v).map λb=>.ok v G
     |a::r=>bd (F.ev Y e G) λv G=>match o with
      |.And=>bX (truth v) (F.fk Y o (a::r) G) (some (.ok v G))
      |.Or=>bX (truth v) (some (.ok v G)) (F.fk Y o (a::r) G)
def jK(T:Tb)(F:Fs)(Y:En)(s:List Expr)(G:Hp):Option (R Bool):=match s with
    |[]=>some (.ok true G)
    |e::r=>match r with
     |[]=>bd (F.ev Y e G) λv G=>(truth v).map λb=>.ok b G
     |_=>.none
def i_(F:Fs)(Y:En)(e:Expr)(x:Str)(f:List Expr)(xs:Src)(i:Nat)(o:List V)(b:Bool)(G:Hp):Option (R (List V)):=match b with
 |true=>if bS o.length then bd (F.ev Y e G) λy G=>F.comp Y e x f xs (i+1) (y::o) G else .none
 |false=>F.comp Y e x f xs (i+1) o G
def pe(F:Fs)(Y:En)(e:Expr)(x:Str)(f:List Expr)(xs:Src)(i:Nat)(o:List V)(v:V)(G:Hp):Option (R (List V)):=(bZ Y G x v).bind λp=>bd (F.tests p.1 f p.2) (i_ F p.1 e x f xs i o)
def mr(F:Fs)(Y:En)(e:Expr)(x:Str)(f:List Expr)(xs:Src)(i:Nat)(u:List V)(o:Option V)(G:Hp):Option (R (List V)):=match o with
 |.none=>some (.ok u G)
 |some v=>pe F Y e x f xs i u v G
def gJ(T:Tb)(F:Fs)(Y:En)(e:Expr)(x:Str)(f:List Expr)(xs:Src)(i:Nat)(u:List V)(G:Hp):Option (R (List V)):=(cz T G xs i).bind λo=>mr F Y e x f xs i u o G
def jL(T:Tb)(F:Fs)(f:V)(s:List V)(G:Hp):Option (R V):=match f with
    |.old a=>match T.cls a with
     |some c=>bd (F.call c.init (.ref (G.length+1)::s) ((G.push (.dict [])).push (.inst a G.length))) λr b=>if cM r .none then kO (.ref (G.length+1)) b else .none
     |.none=>F.call a s G
    |f=>cF T f s G
noncomputable def callEnd(x:Option RS):Option (R V):=match x with
 |some (.ok f a G)=>match f with
  |.ret v=>some (.ok v G)
  |.next=>some (.ok .none G)
  |_=>.none
 |some (.exc a G)=>some (.exc G)
 |_=>.none
def iB(F:Fs)(f:Fn)(a:List V)(G:Hp):Option (R V):=
 if Nat.ble a.length f.ps.length&&Nat.ble f.ps.length (a.length+f.dflt.length) then
  match gH f.sc.names G [] with
  |(G,cs)=>match cV (f.ps.zip (a++f.dflt.drop (f.dflt.length-(f.ps.length-a.length)))) ⟨f.sc.names,[],cs⟩ G with
   |some (Y,G)=>callEnd (F.ax Y f.body G)
   |.none=>.none
  else .none
def iC(T:Tb)(F:Fs)(a:Nat)(s:List V)(G:Hp):Option (R V):=match T.fn a with
    |.none=>.none
    |some f=>iB F f s G
def ja(Y:En)(xs:List Str):Bool:=xs.all λx=>match lk x Y.sc with
 |some .local=>true
 |_=>false
noncomputable def dz(x:Option (En×Hp)):Option RS:=match x with
 |some (Y,G)=>some (.ok .next Y.loc G)
 |.none=>.none
noncomputable def d0(Y:En)(x:Option Hp):Option RS:=match x with
 |some G=>some (.ok .next Y.loc G)
 |.none=>.none
def fc(Y:En)(xs:List Str)(v:V)(G:Hp):Option RS:=match v with
 |.ref i=>match G.get i with
  |some (.tup s)=>if Nat.beq xs.length s.length then dz (cV (xs.zip s) Y G) else .none
  |_=>.none
 |_=>.none
def jM(Y:En)(c:Str):Bool:=match lk c Y.sc with
 |some .globalImplicit=>true
 |_=>false
def kU(T:Tb)(Y:En)(c:Str):Bool:=jM Y c&&match dp T c with
 |some v=>cM v (.old T.cH)
 |.none=>false
def fR(T:Tb)(Y:En)(c:Str):Bool:=jM Y c&&match dp T c with
 |some v=>cM v (.old T.cH)||cM v (.old T.base)
 |.none=>false
def iD(T:Tb)(Y:En)(c x:Str)(r:Option RS):Option RS:=match r with
 |some (.exc l G)=>if fR T Y c then dz (bZ ⟨Y.sc,l,Y.bF⟩ G x .none) else .none
 |r=>r
def g_(T:Tb)(Y:En)(c o a b y n:Str)(r:Option RS):Option RS:=match r with
 |some (.exc l G)=>match name T ⟨Y.sc,l,Y.bF⟩ G y with
  |some e=>match name T ⟨Y.sc,l,Y.bF⟩ G o with
   |some d=>match dq T G d a with
    |some v=>match dQ T G v b e with
     |some G=>if !sq n y&&!sq n o&&fR T Y c&&ja Y [n]&&(lk n l).isNone then some (.exc l G) else .none
     |.none=>.none
    |.none=>.none
   |.none=>.none
  |.none=>.none
 |r=>r
noncomputable def noRef:V->Bool
 |.ref a=>false
 |.old a=>false
 |_=>true
structure Bs where
 f:Tb->Fs->En->Hp->Option RS
noncomputable def r_(s:ShS):Bs:=match s with
 |.expr e=>⟨λT F Y G=>lift Y (F.ev Y e G) λv G=>if noRef v then some (.ok .next Y.loc G) else .none⟩
 |.pass=>⟨λT F Y G=>some (.ok .next Y.loc G)⟩
 |.ret e=>⟨λT F Y G=>lift Y (F.ev Y e G) λv G=>some (.ok (.ret v) Y.loc G)⟩
 |.kI x e=>⟨λT F Y G=>lift Y (F.ev Y e G) λv G=>dz (bZ Y G x v)⟩
 |.jH x l y d f p=>⟨λT F Y G=>if ja Y [x] then lift Y (gI T F Y l y d f p G) λv G=>dz (bZ Y G x v) else .none⟩
 |.jI o a e=>⟨λT F Y G=>lift Y (F.ev Y e G) λv G=>lift Y (F.ev Y o G) λg G=>d0 Y (dQ T G g a v)⟩
 |.jJ o i e=>⟨λT F Y G=>lift Y (F.ev Y e G) λv G=>lift Y (F.ev Y o G) λg G=>lift Y (F.ev Y i G) λm G=>d0 Y (fj G g m v)⟩
 |.i8 xs e=>⟨λT F Y G=>lift Y (F.ev Y e G) λv G=>fc Y xs v G⟩
 |.fO t b o=>⟨λT F Y G=>lift Y (F.ev Y t G) λv G=>bX (truth v) (F.ax Y b G) (F.ax Y o G)⟩
 |.cA t b=>⟨λT F Y G=>F.cA Y t b G⟩
 |.for x d b=>⟨λT F Y G=>lift Y (items T F Y d G) λxs G=>F.fr Y x b xs 0 G⟩
 |.raise c k=>⟨λT F Y G=>if kU T Y c then lift Y (F.bL Y k G) λq G=>if Nat.beq q.length 2 then some (.exc Y.loc G) else .none else .none⟩
 |.kJ b c x=>⟨λT F Y G=>iD T Y c x (F.ax Y b G)⟩
 |.kK b c o h j y n=>⟨λT F Y G=>g_ T Y c o h j y n (F.ax Y b G)⟩
 |.no=>⟨λT F Y G=>.none⟩
def kW(T:Tb)(F:Fs)(Y:En)(s:ShS)(G:Hp):Option RS:=(r_ s).f T F Y G
def pf(T:Tb)(F:Fs)(Y:En)(s:Stmt)(G:Hp):Option RS:=kW T F Y (gY s) G
noncomputable def pg{a:Type}(Y:En)(l:List (Str×V))(k:En->a):a:=@En.rec (λb=>a) (λs b c=>k ⟨s,l,c⟩) Y
noncomputable def hG(x:Option RS)(k:Fl->List (Str×V)->Hp->Option RS):Option RS:=@Option.rec RS (λa=>Option RS) .none (@RS.rec (λa=>Option RS) k λl G=>some (.exc l G)) x
noncomputable def mu(f:Fl)(l:List (Str×V))(G:Hp)(k:Option RS):Option RS:=@Fl.rec (λa=>Option RS) k (some (.ok .brk l G)) (some (.ok .cont l G)) (λv=>some (.ok (.ret v) l G)) f
noncomputable def mv(T:Tb)(F:Fs)(Y:En)(a:List Stmt)(G:Hp):Option RS:=@List.rec Stmt (λb=>Option RS) (some (.ok .next Y.loc G)) (λs r b=>hG (F.ex Y s G) λf l G=>mu f l G (pg Y l λY=>F.ax Y r G)) a
noncomputable def dS(x:Option RS)(g:List (Str×V)->Hp->Option RS):Option RS:=match x with
 |some (.ok f l G)=>match f with
  |.next=>g l G
  |.cont=>g l G
  |.brk=>some (.ok .next l G)
  |.ret v=>some (.ok (.ret v) l G)
 |x=>x
def mw(T:Tb)(F:Fs)(Y:En)(t:Expr)(b:List Stmt)(G:Hp):Option RS:=
 lift Y (F.ev Y t G) λv G=>bX (truth v) (dS (F.ax Y b G) λl G=>pg Y l λY=>F.cA Y t b G) (some (.ok .next Y.loc G))
def iE(T:Tb)(F:Fs)(Y:En)(x:Str)(b:List Stmt)(xs:Src)(i:Nat)(G:Hp):Option RS:=match cz T G xs i with
    |.none=>.none
    |some .none=>some (.ok .next Y.loc G)
    |some (some v)=>match bZ Y G x v with
     |some (Y,G)=>dS (F.ax Y b G) λl G=>pg Y l λY=>F.fr Y x b xs (i+1) G
     |.none=>.none
noncomputable def bot:Fs:=⟨λa b c=>.none,λa b c=>.none,λa b c d=>.none,λa b c=>.none,λa b c d e f g h=>.none,λa b c=>.none,λa b c=>.none,λa b c=>.none,λa b c=>.none,λa b c d=>.none,λa b c d e f=>.none⟩
def up(T:Tb)(F:Fs):Fs:=⟨pd T F,kT T F,iA T F,jK T F,gJ T F,jL T F,iC T F,pf T F,mv T F,mw T F,iE T F⟩
def run(T:Tb)(n:Nat):Fs:=Nat.rec (motive:=λa=>Fs) bot (λa F=>up T F) n
theorem jb{d:Type}(c:Bool)(a b:d):@Bool.rec (λe=>d) b a c=bif c then a else b:=by cases c<;>rfl
theorem jN{a:Type}(x:Str)(e:Str×a)(r:List (Str×a)):lk x (e::r)=bif sq x e.1 then some e.2 else lk x r:=jb (sq x e.1) (some e.2) (lk x r)
theorem ph(x:Str)(v:V)(e:Str×V)(r:List (Str×V)):put x v (e::r)=bif sq x e.1 then(e.1,v)::r else e::put x v r:=jb (sq x e.1) ((e.1,v)::r) (e::put x v r)
theorem my(k:V)(e:V×V)(r:List (V×V)):cb k (e::r)=bif cM e.1 k then some e.2 else cb k r:=jb (cM e.1 k) (some e.2) (cb k r)
theorem jc(T:Tb)(Y:En)(G:Hp)(x:Str):name T Y G x=match lk x Y.sc with
 |some .local=>lk x Y.loc
 |some .cell=>match lk x Y.bF with
  |some i=>match G.get i with
   |some (.cell v)=>v
   |_=>.none
  |.none=>.none
 |some .globalImplicit=>dp T x
 |_=>.none:=by
 refine(?_:(rS x (lk x Y.sc)).f T Y.loc Y.bF G=_)
 generalize lk x Y.sc=k
 cases k with
 |none=>rfl
 |some k=>cases k<;>rfl
theorem jd(Y:En)(G:Hp)(x:Str)(v:V):bZ Y G x v=match lk x Y.sc with
 |some .local=>some (⟨Y.sc,put x v Y.loc,Y.bF⟩,G)
 |some .cell=>match lk x Y.bF with
  |some i=>match G.get i with
   |some (.cell a)=>some (Y,G.set i (.cell (some v)))
   |_=>.none
  |.none=>.none
 |_=>.none:=by
 refine(?_:(stC x (lk x Y.sc)).f Y.sc Y.loc Y.bF G v=_)
 generalize lk x Y.sc=k
 cases k with
 |none=>rfl
 |some k=>cases k<;>rfl
theorem nsb{c:Type}{a b:c}{d:Prop}(e:some a=some b)(k:a=b->d):d:=k (Option.some.inj e)
theorem nos{a:Type}{x:a}{P:Prop}(e:(none:Option a)=some x):P:=by cases e
theorem nft{P:Prop}(e:false=true):P:=by cases e
theorem nex{b:Type}{a:b}{G U:Hp}{P:Prop}(e:some (R.exc U)=some (R.ok a G)):P:=by cases e
end Mi
set_option genInjectivity true
namespace Mi
@[elab_as_elim] theorem trw {c:Sort _} {a b:c} {p:c->Prop} (h:a=b) (k:p b):p a:=h▸k
@[elab_as_elim] theorem trl {c:Sort _} {a b:c} {p:c->Prop} (h:b=a) (k:p b):p a:=h▸k
theorem i1a2{A B:a->Prop}(s:a)(i:A s)(j:B s):∃s,A s/\B s:=⟨s,i,j⟩
theorem i7a1{A:a->b->c->d->e->f->g->Prop}(s:a)(t:b)(u:c)(v:d)(w:e)(x:f)(y:g)(i:A s t u v w x y):∃s t u v w x y,A s t u v w x y:=⟨s,t,u,v,w,x,y,i⟩
theorem e1a1{A:a->Prop}{b:Prop}(H:∃s,A s)(K:∀s,A s->b):b:=H.elim K
theorem e1a2{A B:a->Prop}{b:Prop}(H:∃s,A s/\B s)(K:∀s,A s->B s->b):b:=e1a1 H λs H=>K s H.1 H.2
theorem e1a3{A B C:a->Prop}{b:Prop}(H:∃s,A s/\B s/\C s)(K:∀s,A s->B s->C s->b):b:=e1a2 H λs i H=>K s i H.1 H.2
theorem e2a1{A:a->b->Prop}{c:Prop}(H:∃s t,A s t)(K:∀s t,A s t->c):c:=e1a1 H λs H=>H.elim λt H=>K s t H
theorem e3a1{A:a->b->c->Prop}{d:Prop}(H:∃s t u,A s t u)(K:∀s t u,A s t u->d):d:=e2a1 H λs t H=>H.elim λu H=>K s t u H
theorem e4a1{A:a->b->c->d->Prop}{e:Prop}(H:∃s t u v,A s t u v)(K:∀s t u v,A s t u v->e):e:=e3a1 H λs t u H=>H.elim λv H=>K s t u v H
theorem e5a1{A:a->b->c->d->e->Prop}{f:Prop}(H:∃s t u v w,A s t u v w)(K:∀s t u v w,A s t u v w->f):f:=e4a1 H λs t u v H=>H.elim λw H=>K s t u v w H
theorem i3a5{A B C D E:a->b->c->Prop}(s:a)(t:b)(u:c)(i:A s t u)(j:B s t u)(k:C s t u)(l:D s t u)(m:E s t u):∃s t u,A s t u/\B s t u/\C s t u/\D s t u/\E s t u:=⟨s,t,u,i,j,k,l,m⟩
theorem e5a2{A B:a->b->c->d->e->Prop}{f:Prop}(H:∃s t u v w,A s t u v w/\B s t u v w)(K:∀s t u v w,A s t u v w->B s t u v w->f):f:=e5a1 H λs t u v w H=>K s t u v w H.1 H.2
theorem e5a3{A B C:a->b->c->d->e->Prop}{f:Prop}(H:∃s t u v w,A s t u v w/\B s t u v w/\C s t u v w)(K:∀s t u v w,A s t u v w->B s t u v w->C s t u v w->f):f:=e5a2 H λs t u v w i H=>K s t u v w i H.1 H.2
theorem e5a4{A B C D:a->b->c->d->e->Prop}{f:Prop}(H:∃s t u v w,A s t u v w/\B s t u v w/\C s t u v w/\D s t u v w)(K:∀s t u v w,A s t u v w->B s t u v w->C s t u v w->D s t u v w->f):f:=e5a3 H λs t u v w i j H=>K s t u v w i j H.1 H.2
theorem e5a5{A B C D E:a->b->c->d->e->Prop}{f:Prop}(H:∃s t u v w,A s t u v w/\B s t u v w/\C s t u v w/\D s t u v w/\E s t u v w)(K:∀s t u v w,A s t u v w->B s t u v w->C s t u v w->D s t u v w->E s t u v w->f):f:=e5a4 H λs t u v w i j k H=>K s t u v w i j k H.1 H.2
theorem e2a2{A B:a->b->Prop}{c:Prop}(H:∃s t,A s t/\B s t)(K:∀s t,A s t->B s t->c):c:=e2a1 H λs t H=>K s t H.1 H.2
theorem e2a3{A B C:a->b->Prop}{c:Prop}(H:∃s t,A s t/\B s t/\C s t)(K:∀s t,A s t->B s t->C s t->c):c:=e2a2 H λs t i H=>K s t i H.1 H.2
theorem e2a4{A B C D:a->b->Prop}{c:Prop}(H:∃s t,A s t/\B s t/\C s t/\D s t)(K:∀s t,A s t->B s t->C s t->D s t->c):c:=e2a3 H λs t i j H=>K s t i j H.1 H.2
theorem e2a5{A B C D E:a->b->Prop}{c:Prop}(H:∃s t,A s t/\B s t/\C s t/\D s t/\E s t)(K:∀s t,A s t->B s t->C s t->D s t->E s t->c):c:=e2a4 H λs t i j k H=>K s t i j k H.1 H.2
theorem e2a6{A B C D E F:a->b->Prop}{c:Prop}(H:∃s t,A s t/\B s t/\C s t/\D s t/\E s t/\F s t)(K:∀s t,A s t->B s t->C s t->D s t->E s t->F s t->c):c:=e2a5 H λs t i j k l H=>K s t i j k l H.1 H.2
theorem e2a7{A B C D E F I:a->b->Prop}{c:Prop}(H:∃s t,A s t/\B s t/\C s t/\D s t/\E s t/\F s t/\I s t)(K:∀s t,A s t->B s t->C s t->D s t->E s t->F s t->I s t->c):c:=e2a6 H λs t i j k l m H=>K s t i j k l m H.1 H.2
theorem e2a8{A B C D E F I d:a->b->Prop}{c:Prop}(H:∃s t,A s t/\B s t/\C s t/\D s t/\E s t/\F s t/\I s t/\d s t)(K:∀s t,A s t->B s t->C s t->D s t->E s t->F s t->I s t->d s t->c):c:=e2a7 H λs t i j k l m n H=>K s t i j k l m n H.1 H.2
theorem e2a9{A B C D E F I d L:a->b->Prop}{c:Prop}(H:∃s t,A s t/\B s t/\C s t/\D s t/\E s t/\F s t/\I s t/\d s t/\L s t)(K:∀s t,A s t->B s t->C s t->D s t->E s t->F s t->I s t->d s t->L s t->c):c:=e2a8 H λs t i j k l m n o H=>K s t i j k l m n o H.1 H.2
theorem e0a2{A B:Prop}{a:Prop}(H:A/\B)(K:A->B->a):a:=K H.1 H.2
theorem e0a3{A B C:Prop}{a:Prop}(H:A/\B/\C)(K:A->B->C->a):a:=e0a2 H λi H=>K i H.1 H.2
theorem e0a4{A B C D:Prop}{a:Prop}(H:A/\B/\C/\D)(K:A->B->C->D->a):a:=e0a3 H λi j H=>K i j H.1 H.2
theorem e0a5{A B C D E:Prop}{a:Prop}(H:A/\B/\C/\D/\E)(K:A->B->C->D->E->a):a:=e0a4 H λi j k H=>K i j k H.1 H.2
theorem e0a6{A B C D E F:Prop}{a:Prop}(H:A/\B/\C/\D/\E/\F)(K:A->B->C->D->E->F->a):a:=e0a5 H λi j k l H=>K i j k l H.1 H.2
theorem e0a7{A B C D E F I:Prop}{a:Prop}(H:A/\B/\C/\D/\E/\F/\I)(K:A->B->C->D->E->F->I->a):a:=e0a6 H λi j k l m H=>K i j k l m H.1 H.2
theorem e0a8{A B C D E F I b:Prop}{a:Prop}(H:A/\B/\C/\D/\E/\F/\I/\b)(K:A->B->C->D->E->F->I->b->a):a:=e0a7 H λi j k l m n H=>K i j k l m n H.1 H.2
theorem e0a9{A B C D E F I b L:Prop}{a:Prop}(H:A/\B/\C/\D/\E/\F/\I/\b/\L)(K:A->B->C->D->E->F->I->b->L->a):a:=e0a8 H λi j k l m n o H=>K i j k l m n o H.1 H.2
theorem e0a10{A B C D E F I b L M:Prop}{a:Prop}(H:A/\B/\C/\D/\E/\F/\I/\b/\L/\M)(K:A->B->C->D->E->F->I->b->L->M->a):a:=e0a9 H λi j k l m n o p H=>K i j k l m n o p H.1 H.2
theorem e0a11{A B C D E F I b L M N:Prop}{a:Prop}(H:A/\B/\C/\D/\E/\F/\I/\b/\L/\M/\N)(K:A->B->C->D->E->F->I->b->L->M->N->a):a:=e0a10 H λi j k l m n o p q H=>K i j k l m n o p q H.1 H.2
theorem i2a2{A B:a->b->Prop}(s:a)(t:b)(i:A s t)(j:B s t):∃s t,A s t/\B s t:=⟨s,t,i,j⟩
theorem i3a1{A:a->b->c->Prop}(s:a)(t:b)(u:c)(i:A s t u):∃s t u,A s t u:=⟨s,t,u,i⟩
theorem e5a6{A B C D E F:a->b->c->d->e->Prop}{f:Prop}(H:∃s t u v w,A s t u v w/\B s t u v w/\C s t u v w/\D s t u v w/\E s t u v w/\F s t u v w)(K:∀s t u v w,A s t u v w->B s t u v w->C s t u v w->D s t u v w->E s t u v w->F s t u v w->f):f:=e5a5 H λs t u v w i j k l H=>K s t u v w i j k l H.1 H.2
theorem e5a7{A B C D E F I:a->b->c->d->e->Prop}{f:Prop}(H:∃s t u v w,A s t u v w/\B s t u v w/\C s t u v w/\D s t u v w/\E s t u v w/\F s t u v w/\I s t u v w)(K:∀s t u v w,A s t u v w->B s t u v w->C s t u v w->D s t u v w->E s t u v w->F s t u v w->I s t u v w->f):f:=e5a6 H λs t u v w i j k l m H=>K s t u v w i j k l m H.1 H.2
theorem e5a8{A B C D E F I g:a->b->c->d->e->Prop}{f:Prop}(H:∃s t u v w,A s t u v w/\B s t u v w/\C s t u v w/\D s t u v w/\E s t u v w/\F s t u v w/\I s t u v w/\g s t u v w)(K:∀s t u v w,A s t u v w->B s t u v w->C s t u v w->D s t u v w->E s t u v w->F s t u v w->I s t u v w->g s t u v w->f):f:=e5a7 H λs t u v w i j k l m n H=>K s t u v w i j k l m n H.1 H.2
theorem e5a9{A B C D E F I g L:a->b->c->d->e->Prop}{f:Prop}(H:∃s t u v w,A s t u v w/\B s t u v w/\C s t u v w/\D s t u v w/\E s t u v w/\F s t u v w/\I s t u v w/\g s t u v w/\L s t u v w)(K:∀s t u v w,A s t u v w->B s t u v w->C s t u v w->D s t u v w->E s t u v w->F s t u v w->I s t u v w->g s t u v w->L s t u v w->f):f:=e5a8 H λs t u v w i j k l m n o H=>K s t u v w i j k l m n o H.1 H.2
theorem e4a2{A B:a->b->c->d->Prop}{e:Prop}(H:∃s t u v,A s t u v/\B s t u v)(K:∀s t u v,A s t u v->B s t u v->e):e:=e4a1 H λs t u v H=>K s t u v H.1 H.2
theorem e4a3{A B C:a->b->c->d->Prop}{e:Prop}(H:∃s t u v,A s t u v/\B s t u v/\C s t u v)(K:∀s t u v,A s t u v->B s t u v->C s t u v->e):e:=e4a2 H λs t u v i H=>K s t u v i H.1 H.2
theorem e4a4{A B C D:a->b->c->d->Prop}{e:Prop}(H:∃s t u v,A s t u v/\B s t u v/\C s t u v/\D s t u v)(K:∀s t u v,A s t u v->B s t u v->C s t u v->D s t u v->e):e:=e4a3 H λs t u v i j H=>K s t u v i j H.1 H.2
theorem e4a5{A B C D E:a->b->c->d->Prop}{e:Prop}(H:∃s t u v,A s t u v/\B s t u v/\C s t u v/\D s t u v/\E s t u v)(K:∀s t u v,A s t u v->B s t u v->C s t u v->D s t u v->E s t u v->e):e:=e4a4 H λs t u v i j k H=>K s t u v i j k H.1 H.2
theorem e4a6{A B C D E F:a->b->c->d->Prop}{e:Prop}(H:∃s t u v,A s t u v/\B s t u v/\C s t u v/\D s t u v/\E s t u v/\F s t u v)(K:∀s t u v,A s t u v->B s t u v->C s t u v->D s t u v->E s t u v->F s t u v->e):e:=e4a5 H λs t u v i j k l H=>K s t u v i j k l H.1 H.2
theorem e1a4{A B C D:a->Prop}{b:Prop}(H:∃s,A s/\B s/\C s/\D s)(K:∀s,A s->B s->C s->D s->b):b:=e1a3 H λs i j H=>K s i j H.1 H.2
theorem e1a5{A B C D E:a->Prop}{b:Prop}(H:∃s,A s/\B s/\C s/\D s/\E s)(K:∀s,A s->B s->C s->D s->E s->b):b:=e1a4 H λs i j k H=>K s i j k H.1 H.2
theorem e1a6{A B C D E F:a->Prop}{b:Prop}(H:∃s,A s/\B s/\C s/\D s/\E s/\F s)(K:∀s,A s->B s->C s->D s->E s->F s->b):b:=e1a5 H λs i j k l H=>K s i j k l H.1 H.2
theorem i5a9{A B C D E F I f L:a->b->c->d->e->Prop}(s:a)(t:b)(u:c)(v:d)(w:e)(i:A s t u v w)(j:B s t u v w)(k:C s t u v w)(l:D s t u v w)(m:E s t u v w)(n:F s t u v w)(o:I s t u v w)(p:f s t u v w)(q:L s t u v w):∃s t u v w,A s t u v w/\B s t u v w/\C s t u v w/\D s t u v w/\E s t u v w/\F s t u v w/\I s t u v w/\f s t u v w/\L s t u v w:=⟨s,t,u,v,w,i,j,k,l,m,n,o,p,q⟩
theorem e6a1{A:a->b->c->d->e->f->Prop}{g:Prop}(H:∃s t u v w x,A s t u v w x)(K:∀s t u v w x,A s t u v w x->g):g:=e5a1 H λs t u v w H=>H.elim λx H=>K s t u v w x H
theorem e7a1{A:a->b->c->d->e->f->g->Prop}{h:Prop}(H:∃s t u v w x y,A s t u v w x y)(K:∀s t u v w x y,A s t u v w x y->h):h:=e6a1 H λs t u v w x H=>H.elim λy H=>K s t u v w x y H
theorem e7a2{A B:a->b->c->d->e->f->g->Prop}{h:Prop}(H:∃s t u v w x y,A s t u v w x y/\B s t u v w x y)(K:∀s t u v w x y,A s t u v w x y->B s t u v w x y->h):h:=e7a1 H λs t u v w x y H=>K s t u v w x y H.1 H.2
theorem e6a2{A B:a->b->c->d->e->f->Prop}{g:Prop}(H:∃s t u v w x,A s t u v w x/\B s t u v w x)(K:∀s t u v w x,A s t u v w x->B s t u v w x->g):g:=e6a1 H λs t u v w x H=>K s t u v w x H.1 H.2
theorem e6a3{A B C:a->b->c->d->e->f->Prop}{g:Prop}(H:∃s t u v w x,A s t u v w x/\B s t u v w x/\C s t u v w x)(K:∀s t u v w x,A s t u v w x->B s t u v w x->C s t u v w x->g):g:=e6a2 H λs t u v w x i H=>K s t u v w x i H.1 H.2
theorem e6a4{A B C D:a->b->c->d->e->f->Prop}{g:Prop}(H:∃s t u v w x,A s t u v w x/\B s t u v w x/\C s t u v w x/\D s t u v w x)(K:∀s t u v w x,A s t u v w x->B s t u v w x->C s t u v w x->D s t u v w x->g):g:=e6a3 H λs t u v w x i j H=>K s t u v w x i j H.1 H.2
theorem e6a5{A B C D E:a->b->c->d->e->f->Prop}{g:Prop}(H:∃s t u v w x,A s t u v w x/\B s t u v w x/\C s t u v w x/\D s t u v w x/\E s t u v w x)(K:∀s t u v w x,A s t u v w x->B s t u v w x->C s t u v w x->D s t u v w x->E s t u v w x->g):g:=e6a4 H λs t u v w x i j k H=>K s t u v w x i j k H.1 H.2
theorem e6a6{A B C D E F:a->b->c->d->e->f->Prop}{g:Prop}(H:∃s t u v w x,A s t u v w x/\B s t u v w x/\C s t u v w x/\D s t u v w x/\E s t u v w x/\F s t u v w x)(K:∀s t u v w x,A s t u v w x->B s t u v w x->C s t u v w x->D s t u v w x->E s t u v w x->F s t u v w x->g):g:=e6a5 H λs t u v w x i j k l H=>K s t u v w x i j k l H.1 H.2
theorem e6a7{A B C D E F I:a->b->c->d->e->f->Prop}{g:Prop}(H:∃s t u v w x,A s t u v w x/\B s t u v w x/\C s t u v w x/\D s t u v w x/\E s t u v w x/\F s t u v w x/\I s t u v w x)(K:∀s t u v w x,A s t u v w x->B s t u v w x->C s t u v w x->D s t u v w x->E s t u v w x->F s t u v w x->I s t u v w x->g):g:=e6a6 H λs t u v w x i j k l m H=>K s t u v w x i j k l m H.1 H.2
theorem i4a3{A B C:a->b->c->d->Prop}(s:a)(t:b)(u:c)(v:d)(i:A s t u v)(j:B s t u v)(k:C s t u v):∃s t u v,A s t u v/\B s t u v/\C s t u v:=⟨s,t,u,v,i,j,k⟩
theorem e4a7{A B C D E F I:a->b->c->d->Prop}{e:Prop}(H:∃s t u v,A s t u v/\B s t u v/\C s t u v/\D s t u v/\E s t u v/\F s t u v/\I s t u v)(K:∀s t u v,A s t u v->B s t u v->C s t u v->D s t u v->E s t u v->F s t u v->I s t u v->e):e:=e4a6 H λs t u v i j k l m H=>K s t u v i j k l m H.1 H.2
theorem i1a6{A B C D E F:a->Prop}(s:a)(i:A s)(j:B s)(k:C s)(l:D s)(m:E s)(n:F s):∃s,A s/\B s/\C s/\D s/\E s/\F s:=⟨s,i,j,k,l,m,n⟩
theorem e4a8{A B C D E F I f:a->b->c->d->Prop}{e:Prop}(H:∃s t u v,A s t u v/\B s t u v/\C s t u v/\D s t u v/\E s t u v/\F s t u v/\I s t u v/\f s t u v)(K:∀s t u v,A s t u v->B s t u v->C s t u v->D s t u v->E s t u v->F s t u v->I s t u v->f s t u v->e):e:=e4a7 H λs t u v i j k l m n H=>K s t u v i j k l m n H.1 H.2
theorem e4a9{A B C D E F I f L:a->b->c->d->Prop}{e:Prop}(H:∃s t u v,A s t u v/\B s t u v/\C s t u v/\D s t u v/\E s t u v/\F s t u v/\I s t u v/\f s t u v/\L s t u v)(K:∀s t u v,A s t u v->B s t u v->C s t u v->D s t u v->E s t u v->F s t u v->I s t u v->f s t u v->L s t u v->e):e:=e4a8 H λs t u v i j k l m n o H=>K s t u v i j k l m n o H.1 H.2
theorem e4a10{A B C D E F I f L M:a->b->c->d->Prop}{e:Prop}(H:∃s t u v,A s t u v/\B s t u v/\C s t u v/\D s t u v/\E s t u v/\F s t u v/\I s t u v/\f s t u v/\L s t u v/\M s t u v)(K:∀s t u v,A s t u v->B s t u v->C s t u v->D s t u v->E s t u v->F s t u v->I s t u v->f s t u v->L s t u v->M s t u v->e):e:=e4a9 H λs t u v i j k l m n o p H=>K s t u v i j k l m n o p H.1 H.2
theorem e4a11{A B C D E F I f L M N:a->b->c->d->Prop}{e:Prop}(H:∃s t u v,A s t u v/\B s t u v/\C s t u v/\D s t u v/\E s t u v/\F s t u v/\I s t u v/\f s t u v/\L s t u v/\M s t u v/\N s t u v)(K:∀s t u v,A s t u v->B s t u v->C s t u v->D s t u v->E s t u v->F s t u v->I s t u v->f s t u v->L s t u v->M s t u v->N s t u v->e):e:=e4a10 H λs t u v i j k l m n o p q H=>K s t u v i j k l m n o p q H.1 H.2
theorem e4a12{A B C D E F I f L M N O:a->b->c->d->Prop}{e:Prop}(H:∃s t u v,A s t u v/\B s t u v/\C s t u v/\D s t u v/\E s t u v/\F s t u v/\I s t u v/\f s t u v/\L s t u v/\M s t u v/\N s t u v/\O s t u v)(K:∀s t u v,A s t u v->B s t u v->C s t u v->D s t u v->E s t u v->F s t u v->I s t u v->f s t u v->L s t u v->M s t u v->N s t u v->O s t u v->e):e:=e4a11 H λs t u v i j k l m n o p q r H=>K s t u v i j k l m n o p q r H.1 H.2
theorem e3a2{A B:a->b->c->Prop}{d:Prop}(H:∃s t u,A s t u/\B s t u)(K:∀s t u,A s t u->B s t u->d):d:=e3a1 H λs t u H=>K s t u H.1 H.2
theorem e3a3{A B C:a->b->c->Prop}{d:Prop}(H:∃s t u,A s t u/\B s t u/\C s t u)(K:∀s t u,A s t u->B s t u->C s t u->d):d:=e3a2 H λs t u i H=>K s t u i H.1 H.2
theorem e3a4{A B C D:a->b->c->Prop}{d:Prop}(H:∃s t u,A s t u/\B s t u/\C s t u/\D s t u)(K:∀s t u,A s t u->B s t u->C s t u->D s t u->d):d:=e3a3 H λs t u i j H=>K s t u i j H.1 H.2
theorem e3a5{A B C D E:a->b->c->Prop}{d:Prop}(H:∃s t u,A s t u/\B s t u/\C s t u/\D s t u/\E s t u)(K:∀s t u,A s t u->B s t u->C s t u->D s t u->E s t u->d):d:=e3a4 H λs t u i j k H=>K s t u i j k H.1 H.2
theorem e3a6{A B C D E F:a->b->c->Prop}{d:Prop}(H:∃s t u,A s t u/\B s t u/\C s t u/\D s t u/\E s t u/\F s t u)(K:∀s t u,A s t u->B s t u->C s t u->D s t u->E s t u->F s t u->d):d:=e3a5 H λs t u i j k l H=>K s t u i j k l H.1 H.2
theorem i1a5{A B C D E:a->Prop}(s:a)(i:A s)(j:B s)(k:C s)(l:D s)(m:E s):∃s,A s/\B s/\C s/\D s/\E s:=⟨s,i,j,k,l,m⟩
theorem i5a5{A B C D E:a->b->c->d->e->Prop}(s:a)(t:b)(u:c)(v:d)(w:e)(i:A s t u v w)(j:B s t u v w)(k:C s t u v w)(l:D s t u v w)(m:E s t u v w):∃s t u v w,A s t u v w/\B s t u v w/\C s t u v w/\D s t u v w/\E s t u v w:=⟨s,t,u,v,w,i,j,k,l,m⟩
theorem i4a4{A B C D:a->b->c->d->Prop}(s:a)(t:b)(u:c)(v:d)(i:A s t u v)(j:B s t u v)(k:C s t u v)(l:D s t u v):∃s t u v,A s t u v/\B s t u v/\C s t u v/\D s t u v:=⟨s,t,u,v,i,j,k,l⟩
theorem i3a2{A B:a->b->c->Prop}(s:a)(t:b)(u:c)(i:A s t u)(j:B s t u):∃s t u,A s t u/\B s t u:=⟨s,t,u,i,j⟩
theorem i3a3{A B C:a->b->c->Prop}(s:a)(t:b)(u:c)(i:A s t u)(j:B s t u)(k:C s t u):∃s t u,A s t u/\B s t u/\C s t u:=⟨s,t,u,i,j,k⟩
theorem i2a6{A B C D E F:a->b->Prop}(s:a)(t:b)(i:A s t)(j:B s t)(k:C s t)(l:D s t)(m:E s t)(n:F s t):∃s t,A s t/\B s t/\C s t/\D s t/\E s t/\F s t:=⟨s,t,i,j,k,l,m,n⟩
theorem i0a4{A B C D:Prop}(i:A)(j:B)(k:C)(l:D):A/\B/\C/\D:=⟨i,j,k,l⟩
theorem i0a6{A B C D E F:Prop}(i:A)(j:B)(k:C)(l:D)(m:E)(n:F):A/\B/\C/\D/\E/\F:=⟨i,j,k,l,m,n⟩
theorem i0a3{A B C:Prop}(i:A)(j:B)(k:C):A/\B/\C:=⟨i,j,k⟩
theorem i4a1{A:a->b->c->d->Prop}(s:a)(t:b)(u:c)(v:d)(i:A s t u v):∃s t u v,A s t u v:=⟨s,t,u,v,i⟩
theorem i7a2{A B:a->b->c->d->e->f->g->Prop}(s:a)(t:b)(u:c)(v:d)(w:e)(x:f)(y:g)(i:A s t u v w x y)(j:B s t u v w x y):∃s t u v w x y,A s t u v w x y/\B s t u v w x y:=⟨s,t,u,v,w,x,y,i,j⟩
theorem i0a8{A B C D E F I a:Prop}(i:A)(j:B)(k:C)(l:D)(m:E)(n:F)(o:I)(p:a):A/\B/\C/\D/\E/\F/\I/\a:=⟨i,j,k,l,m,n,o,p⟩
theorem i3a6{A B C D E F:a->b->c->Prop}(s:a)(t:b)(u:c)(i:A s t u)(j:B s t u)(k:C s t u)(l:D s t u)(m:E s t u)(n:F s t u):∃s t u,A s t u/\B s t u/\C s t u/\D s t u/\E s t u/\F s t u:=⟨s,t,u,i,j,k,l,m,n⟩
theorem i4a12{A B C D E F I g L M N O:a->b->c->d->Prop}(s:a)(t:b)(u:c)(v:d)(i:A s t u v)(j:B s t u v)(k:C s t u v)(l:D s t u v)(m:E s t u v)(n:F s t u v)(o:I s t u v)(p:g s t u v)(q:L s t u v)(r:M s t u v)(e:N s t u v)(f:O s t u v):∃s t u v,A s t u v/\B s t u v/\C s t u v/\D s t u v/\E s t u v/\F s t u v/\I s t u v/\g s t u v/\L s t u v/\M s t u v/\N s t u v/\O s t u v:=⟨s,t,u,v,i,j,k,l,m,n,o,p,q,r,e,f⟩
theorem i5a1{A:a->b->c->d->e->Prop}(s:a)(t:b)(u:c)(v:d)(w:e)(i:A s t u v w):∃s t u v w,A s t u v w:=⟨s,t,u,v,w,i⟩
theorem i2a1{A:a->b->Prop}(s:a)(t:b)(i:A s t):∃s t,A s t:=⟨s,t,i⟩
theorem i2a9{A B C D E F I c L:a->b->Prop}(s:a)(t:b)(i:A s t)(j:B s t)(k:C s t)(l:D s t)(m:E s t)(n:F s t)(o:I s t)(p:c s t)(q:L s t):∃s t,A s t/\B s t/\C s t/\D s t/\E s t/\F s t/\I s t/\c s t/\L s t:=⟨s,t,i,j,k,l,m,n,o,p,q⟩
theorem i2a5{A B C D E:a->b->Prop}(s:a)(t:b)(i:A s t)(j:B s t)(k:C s t)(l:D s t)(m:E s t):∃s t,A s t/\B s t/\C s t/\D s t/\E s t:=⟨s,t,i,j,k,l,m⟩
theorem i4a7{A B C D E F I:a->b->c->d->Prop}(s:a)(t:b)(u:c)(v:d)(i:A s t u v)(j:B s t u v)(k:C s t u v)(l:D s t u v)(m:E s t u v)(n:F s t u v)(o:I s t u v):∃s t u v,A s t u v/\B s t u v/\C s t u v/\D s t u v/\E s t u v/\F s t u v/\I s t u v:=⟨s,t,u,v,i,j,k,l,m,n,o⟩
theorem i4a6{A B C D E F:a->b->c->d->Prop}(s:a)(t:b)(u:c)(v:d)(i:A s t u v)(j:B s t u v)(k:C s t u v)(l:D s t u v)(m:E s t u v)(n:F s t u v):∃s t u v,A s t u v/\B s t u v/\C s t u v/\D s t u v/\E s t u v/\F s t u v:=⟨s,t,u,v,i,j,k,l,m,n⟩
theorem i3a4{A B C D:a->b->c->Prop}(s:a)(t:b)(u:c)(i:A s t u)(j:B s t u)(k:C s t u)(l:D s t u):∃s t u,A s t u/\B s t u/\C s t u/\D s t u:=⟨s,t,u,i,j,k,l⟩
theorem i6a7{A B C D E F I:a->b->c->d->e->f->Prop}(s:a)(t:b)(u:c)(v:d)(w:e)(x:f)(i:A s t u v w x)(j:B s t u v w x)(k:C s t u v w x)(l:D s t u v w x)(m:E s t u v w x)(n:F s t u v w x)(o:I s t u v w x):∃s t u v w x,A s t u v w x/\B s t u v w x/\C s t u v w x/\D s t u v w x/\E s t u v w x/\F s t u v w x/\I s t u v w x:=⟨s,t,u,v,w,x,i,j,k,l,m,n,o⟩
theorem i2a3{A B C:a->b->Prop}(s:a)(t:b)(i:A s t)(j:B s t)(k:C s t):∃s t,A s t/\B s t/\C s t:=⟨s,t,i,j,k⟩
theorem i5a6{A B C D E F:a->b->c->d->e->Prop}(s:a)(t:b)(u:c)(v:d)(w:e)(i:A s t u v w)(j:B s t u v w)(k:C s t u v w)(l:D s t u v w)(m:E s t u v w)(n:F s t u v w):∃s t u v w,A s t u v w/\B s t u v w/\C s t u v w/\D s t u v w/\E s t u v w/\F s t u v w:=⟨s,t,u,v,w,i,j,k,l,m,n⟩
theorem i1a3{A B C:a->Prop}(s:a)(i:A s)(j:B s)(k:C s):∃s,A s/\B s/\C s:=⟨s,i,j,k⟩
theorem i4a10{A B C D E F I e L M:a->b->c->d->Prop}(s:a)(t:b)(u:c)(v:d)(i:A s t u v)(j:B s t u v)(k:C s t u v)(l:D s t u v)(m:E s t u v)(n:F s t u v)(o:I s t u v)(p:e s t u v)(q:L s t u v)(r:M s t u v):∃s t u v,A s t u v/\B s t u v/\C s t u v/\D s t u v/\E s t u v/\F s t u v/\I s t u v/\e s t u v/\L s t u v/\M s t u v:=⟨s,t,u,v,i,j,k,l,m,n,o,p,q,r⟩
theorem i2a4{A B C D:a->b->Prop}(s:a)(t:b)(i:A s t)(j:B s t)(k:C s t)(l:D s t):∃s t,A s t/\B s t/\C s t/\D s t:=⟨s,t,i,j,k,l⟩
end Mi
set_option compiler.extract_closed false
namespace Mi
theorem Qa{a b c:Nat}(h:a<=b)(e:Nat.ble b c=true):a<=c:=Nat.le_trans h (Nat.le_of_ble_eq_true e)
theorem Qb{a b c:Nat}(h:a<b)(e:Nat.ble b (c+1)=true):a<=c:=Nat.le_of_lt_succ (Nat.lt_of_lt_of_le h (Nat.le_of_ble_eq_true e))
theorem Qc{a n:Nat}(h:a+1<=n):n=n-1+1:=(Nat.sub_add_cancel (Nat.le_trans (Nat.le_add_left 1 a) h)).symm
theorem Qd{a n b c d:Nat}(h:a<=n)(e:Nat.ble b a=true)(f:b+d=c):n-b+c=n+d:=by subst f;rw[←Nat.add_assoc,Nat.sub_add_cancel (Qa (Nat.le_of_ble_eq_true e) (Nat.ble_eq.mpr h))]
theorem Qe{a n b c d:Nat}(h:a<=n)(e:Nat.ble b a=true)(f:c+d=b):n=n-b+c+d:=by rw[Nat.add_assoc,f,Nat.sub_add_cancel (Qa (Nat.le_of_ble_eq_true e) (Nat.ble_eq.mpr h))]
theorem Qf{a n b:Nat}(h:a<=n)(e:Nat.ble b a=true):n=n-b+b:=(Nat.sub_add_cancel (Qa (Nat.le_of_ble_eq_true e) (Nat.ble_eq.mpr h))).symm
theorem Qg{a n b x y:Nat}(h:a<=n)(k:x<=y)(e:Nat.ble (y+b) a=true):x<=n-b:=Nat.le_sub_of_add_le (Nat.le_trans (Nat.add_le_add_right k b) (Qa (Nat.le_of_ble_eq_true e) (Nat.ble_eq.mpr h)))
theorem Qh{a n c d:Nat}(h:a<=n)(e:Nat.ble c (a+d)=true):c<=n+d:=Nat.le_trans (Nat.le_of_ble_eq_true e) (Nat.add_le_add_right h d)
theorem Qi{a n c d f:Nat}(h:a<=n)(e:Nat.ble c (a+d+f)=true):c<=n+d+f:=Qh (Nat.add_le_add_right h d) e
theorem Qj{a b:Nat}(h:b=a+1):a<b:=h.symm▸Nat.lt_succ_self a
theorem Qk{a b c:Nat}(h:c=b+1)(k:a<b):a<c:=h▸Nat.lt_succ_of_lt k
theorem Qm{a b c:Nat}(h:a<b)(e:Nat.ble b c=true):a<c:=Qa h e
theorem Qn{a b c:Nat}(h:a<=b)(e:Nat.ble (b+1) c=true):a<c:=Qa (Nat.succ_le_succ h) e
theorem Qp{a b:Nat}(h:¬a<b):b<=a:=Nat.not_lt.mp h
theorem Qq{a b:Nat}(h:¬a<=b):b<=a:=Nat.le_of_lt (Nat.not_le.mp h)
theorem Qt{a b c:Nat}(h:a<c+b)(k:¬a<c):a-c<b:=Nat.sub_lt_left_of_lt_add (Qp k) h
theorem Qu{a c:Nat}(k:¬a<c):c+(a-c)=a:=Nat.add_sub_of_le (Qp k)
theorem Qv{a n:Nat}(h:a<n):n-a=n-(a+1)+1:=(Nat.sub_add_cancel (Nat.sub_pos_of_lt h)).symm
theorem Rf{a n c k:Nat}(h:a+10*(n+1)<c)(e:Nat.ble k 10=true):a+k+10*n<c:=Nat.lt_of_le_of_lt (by rw[Nat.mul_add,Nat.add_assoc,Nat.add_comm k];exact Nat.add_le_add_left (Nat.add_le_add_left (Nat.le_of_ble_eq_true e) _) _) h
theorem Rg{a n c:Nat}(h:a+(n+1)<c):a+1+n<c:=by rw[Nat.add_assoc,Nat.add_comm 1];exact h
theorem Rh{a b c d:Nat}(h:a+b<c)(e:Nat.ble c d=true):a<d:=Nat.lt_of_lt_of_le (Nat.lt_of_le_of_lt (Nat.le_add_right a b) h) (Nat.le_of_ble_eq_true e)
theorem Rj{a b c d:Nat}(e:a=c)(h:a<=b)(f:Nat.ble b d=true):c<=d:=e▸Nat.le_trans h (Nat.le_of_ble_eq_true f)
theorem Rk{l b x a:Nat}(e:l=b)(h:x<a)(f:Nat.ble a b=true):x<l:=e▸Nat.lt_of_lt_of_le h (Nat.le_of_ble_eq_true f)
theorem Rl{j a b c:Nat}(h:j<a)(k:a<=b)(l:b<=c):j<c:=Nat.lt_of_lt_of_le h (Nat.le_trans k l)
open Lean
def Z1:Syntax:=.atom .none ""
def Z2(k:String)(a:List Syntax):Syntax:=.node .none (.mkStr `Lean.Parser.Tactic k) a.toArray
def Z3(k:String)(a:List Syntax):Syntax:=.node .none (.mkStr `Lean.Parser.Term k) a.toArray
def Z4(a:List Syntax):Syntax:=.node .none `null a.toArray
def Z5{α:Type}(f:α->Syntax)(l:List α):List Syntax:=l.foldr (λa l=>f a::l) []
def Z6(l:List Syntax):List Syntax:=l.foldr (λa l=>a::Z1::l) []
def Z7(ts:List Syntax):Syntax:=Z2 "paren" [Z1,Z2 "tacticSeq" [Z2 "tacticSeq1Indented" [Z4 (Z6 ts)]],Z1]
def Z8(t:Syntax):Syntax:=Z4 [Z1,Z2 "tacticSeq" [Z2 "tacticSeq1Indented" [Z4 [t]]]]
def Z9(ts:List Syntax):Syntax:=Z2 "first" [Z1,Z4 (Z5 Z8 ts)]
def N1(k:String)(e:Syntax):Syntax:=Z2 k [Z1,e]
def N2(k:String)(e:List Syntax):Syntax:=Z2 k [Z1,Z4 e]
def N3(f:Syntax)(a:List Syntax):Syntax:=Z3 "app" [f,Z4 a]
def N4:Syntax:=Z3 "syntheticHole" [Z1,.atom .none "_"]
def N5(s:String):Syntax:=mkIdent (.mkStr `Mi s)
def N6(s:String):Syntax:=mkIdent (.mkStr .anonymous s)
def N7(s:String)(e:Syntax):Syntax:=N1 "exact" (N3 (N5 s) [e])
def N8(e:Syntax):Syntax:=Z4 [Z2 "elimTarget" [Z4 [],e]]
def N9(e p:Syntax):Syntax:=Z2 "rcases" [Z1,N8 e,Z4 [Z1,p]]
def M1(e:Syntax):Syntax:=N2 "subst" [e]
def M2(e:Syntax)(a:List Syntax):Syntax:=Z2 "injection" [Z1,e,Z4 (if a.isEmpty then[] else[Z1,Z4 a])]
def M3(e:Syntax):Syntax:=Z3 "paren" [Z1,e,Z1]
def M4(t:Syntax):Syntax:=Z9 [t,Z2 "skip" [Z1]]
def M5(e:Syntax):Syntax:=M4 (N2 "clear" [e])
def M6(p:String)(n i:Nat):Syntax:=N5 (p++toString (n-1-i)++ "a" ++toString (i+1))
def M7(l:List Syntax):List Syntax×List Syntax:=l.zipIdx.foldr (λx r=>
    let p:=x.1
    let q:=p[0][0][0]
    let y:=N6 ("zz" ++toString x.2)
    if p[0][0].getNumArgs !=1||q.getNumArgs !=1 then(y::r.1,N9 y p::r.2) else
    if q[0].isIdent then if q[0].getId== `rfl then(y::r.1,N9 y p::r.2) else(q[0]::r.1,r.2) else(y::r.1,r.2)) ([],[])
def R1(s:Syntax):Option Syntax:=
 let e:=s[3][1][0]
 let ps:=s[1][0][0][0][1].getSepArgs.toList
 let n:=ps.length
 if !s[2].isNone||s[3][1].getNumArgs !=1||s[1][0][0].getNumArgs !=1||n<3 then none else
 let r:=M7 ps
 some (Z9 (Z5 (λi=>Z7 (if e.isIdent then N1 "refine" (N3 (M6 "e" n i) [e,N4])::M5 e::N2 "intro" r.1::r.2 else
  N1 "refine" (N3 (M6 "e" n i) [e,Z3 "fun" [Z1,Z3 "basicFun" [Z4 r.1,Z4 [],Z1,N4]]])::r.2)) (List.range n)++[N9 e (Z2 "rcasesPatLo" [s[1][0],Z4 []])]))
def R2(s:Syntax):Option Syntax:=
 let xs:=s[1][1].getSepArgs.toList
 if s[1].getKind != `Lean.Parser.Term.anonymousCtor||xs.length<3 then none else
 some (Z9 (Z5 (λi=>.node .none s.getKind #[Z1,N3 (M6 "i" xs.length i) xs]) (List.range xs.length)++[.node .none s.getKind #[Z1,M3 s[1]]]))
def R3(s:Syntax):Option Syntax:=
 let x:=s[1][0]
 let e:=x[1]
 let b:=x[0].isNone&&e.isIdent
 if s[1].getNumArgs !=1||!s[2].isNone||(x[0].isNone&&!b&&e.getKind != `Lean.Parser.Term.app) then none else
 let y:=N6 "zzc"
 let v:=if b then e else y
 let u:=N6 "zzu"
 let w:=N6 "zzw"
 let g:=λ(k:String)=>Z5 (λn=>Z2 "induction" [Z1,N8 v,Z4 [Z1,mkIdent (n++ "On").toName],Z4 [],s[3]]) (k.splitOn " ")
 let c:=λ(l:List Syntax)=>if b&&s[3].isNone then l else[]
 let a:=Z9 (g "Option.cases List.cases Mi.V.cases Bool.cases Mi.O.cases" ++(c [N7 "nos" v,N7 "nft" v,N7 "nex" v,Z7 [M2 v [],Z2 "done" [Z1]],Z7 [M2 v [u],M1 u],Z7 [M2 v [u,w],M1 u,M1 w],Z7 [M2 v [u],M2 u [u,w],M1 u,M1 w]]++(g "PySem.Expr.cases PySem.Stmt.cases Mi.R.cases Mi.RS.cases Mi.Fl.cases Mi.Sh.cases Mi.ShS.cases PySem.Const.cases Prod.cases Mi.Src.cases PySem.Value.cases PySem.Flow.cases PySem.BoolOp.cases PySem.CmpOp.cases PySem.Operator.cases PySem.UnaryOp.cases PySem.ExceptHandler.cases PySem.Comprehension.cases Mi.HT.cases Mi.Hp.cases Mi.En.cases Mi.Tr.cases PySem.NameKind.cases PySem.Data.cases Or.cases And.cases Exists.cases Sd.All2.cases Nat.casesAux Int.cases" ++c [M1 v])))
 let h:=x[0][0]
 some (if b then a else Z7 [Z2 "generalize" [Z1,Z4 [Z2 "generalizeArg" [if x[0].isNone then x[0] else Z4 [if h.isIdent then h else h[0],Z1],e,Z1,y]],Z4 []],a])
def R4(s:Syntax):Option Syntax:=
 if s[1][0].getNumArgs !=0||!s[3].isNone then none else
 some (Z7 (Z5 (λr=>
  let t:=r[1]
  let l:=N5 (if r[0].isNone then "trw" else "trl")
  let w:=Z2 "rewriteSeq" [Z1,s[1],Z2 "rwRuleSeq" [Z1,Z4 [r],Z1],Z4 []]
  if(t.find? (·.isOfKind `Lean.Parser.Term.syntheticHole)).isSome then w else Z9 [N1 "refine" (N3 l [t,N4]),N1 "refine" (N3 l [M3 (N3 t [Z3 "ellipsis" [Z1]]),N4]),w]) s[2][1].getSepArgs.toList++[M4 (N1 "withReducible" (Z2 "tacticSeq" [Z2 "tacticSeq1Indented" [Z4 [Z2 "tacticRfl" [Z1]]]]))]))
def R5(s:Syntax):Option Syntax:=
 let e:=if s[1].isIdent then s[1] else s[1][0][0][0]
 let u:=N6 "zzu"
 if e.isIdent then some (Z9 [N7 "nos" e,N7 "nft" e,N7 "nex" e,Z7 [N1 "refine" (N3 (N5 "nsb") [e,N4]),N2 "clear" [e],N2 "intro" [u],M1 u],Z2 "cases" [Z1,N8 e,Z4 [],Z4 []]]) else none
def R6(s:Syntax):Option Syntax:=some (N1 "refine" (Z3 "typeAscription" [Z1,N4,Z1,Z4 [s[1]],Z1]))
def N0:Syntax:=N1 "withReducible" (Z2 "tacticSeq" [Z2 "tacticSeq1Indented" [Z4 [Z2 "assumption" [Z1]]]])
def R8(_:Syntax):Option Syntax:=some (Z9 (N0::Z5 (λl=>match l.splitOn " " with
 |n::a=>N1 "exact" (N3 (mkIdent n.toName) (Z5 (λa=>Z3 "byTactic" [Z1,Z2 "tacticSeq" [Z2 "tacticSeq1Indented" [Z4 [if a== "a" then N0 else N1 "exact" (N6 "rfl")]]]]) a))
 |[]=>Z1) ("Mi.Qp a;Mi.Qn a r;Mi.Qa a r;Nat.le_of_lt a;Mi.Qc a;Nat.lt_of_lt_of_le a a;Mi.Qh a r;Nat.lt_succ_of_lt a;Mi.Qj a;Nat.le_of_succ_le_succ a;Nat.ne_of_lt a;Mi.Qe a r r;Mi.Qb a r;Mi.Qf a r;Mi.Qd a r r;Mi.Rh a r;Mi.Rk a a r;Mi.Qt a a;Mi.Qi a r;Mi.Qq a;Mi.Rg a;Mi.Rl a a a;Mi.Qg a a r;Mi.Rj a a r;Mi.Rf a r;Nat.ne_of_gt a;Mi.Qu a;Mi.Qk a a;Nat.le_trans a a;Nat.lt_of_le_of_lt a a;Mi.Qv a".splitOn ";")++[Z2 "lia" [Z1,Z2 "optConfig" [Z4 []]]]))
def R7:Option Syntax->MacroM Syntax
 |none=>Macro.throwUnsupported
 |some s=>pure s
end Mi
local macro_rules (kind:=Lean.Parser.Tactic.obtain)|s=>Mi.R7 (Mi.R1 s)
local macro_rules (kind:=Lean.Parser.Tactic.refine)|s=>Mi.R7 (Mi.R2 s)
local macro_rules (kind:=Lean.Parser.Tactic.exact)|s=>Mi.R7 (Mi.R2 s)
local macro_rules (kind:=Lean.Parser.Tactic.cases)|s=>Mi.R7 (Mi.R3 s)
local macro_rules (kind:=Lean.Parser.Tactic.rwSeq)|s=>Mi.R7 (Mi.R4 s)
local macro_rules (kind:=Lean.Parser.Tactic.specialize)|s=>Mi.R7 (Mi.R5 s)
local macro_rules (kind:=Lean.Elab.Tactic.Ext.ext)|s=>Mi.R7 (Mi.R5 s)
local macro_rules | `(tactic| rfl')=> `(tactic| kernel_rfl)
local macro_rules (kind:=Lean.Parser.Tactic.«show»)|s=>Mi.R7 (Mi.R6 s)
local macro_rules (kind:=Lean.Parser.Tactic.omega)|s=>Mi.R7 (Mi.R8 s)
set_option tactic.hygienic true
namespace Mi
open PySem
noncomputable def rc:List Nat->Nat
 |[]=>1
 |c::r=>rc r*2097152+c
theorem pj:∀l,0<rc l
 |[]=>Nat.one_pos
 |c::r=>by have:=pj r;unfold rc;lia
theorem se:∀{l m:List Nat},(∀c∈l,c<2097152)->(∀c∈m,c<2097152)->rc l=rc m->l=m
 |[],[],_,_,_=>rfl
 |[],d::m,_,_,e=>by have:=pj m;unfold rc at e;lia
 |c::l,[],_,_,e=>by have:=pj l;unfold rc at e;lia
 |c::l,d::m,b,f,e=>by
  have g:=b c (.head _)
  have i:=f d (.head _)
  unfold rc at e
  have a:l=m:=se (λx h=>b x (.tail _ h)) (λx h=>f x (.tail _ h)) (by lia)
  rw[a] at e
  rw[a,show c=d by lia]
theorem si(s:Str):code s=rc s.cps.toList.reverse:=by
 unfold code
 generalize s.cps.toList=l
 have:∀l:List Nat,l.reverse.foldl (λa c=>a*2097152+c) 1=rc l:=by
  intro l
  rw[List.foldl_reverse]
  induction l with
  |nil=>rfl
  |cons c r i=>rw[List.foldr_cons,i];rfl
 have h:=this l.reverse
 rwa [List.reverse_reverse] at h
theorem d7{a b:Str}:sq a b=true↔a=b:=by
 unfold sq
 cases d:small a
 ·simp
 ·cases f:small b
  ·simp only[cond_true,cond_false]
   refine⟨λh=>(nomatch h),λh=>?_⟩
   rw[h,f] at d;ext d
  ·simp only[cond_true]
   refine⟨λh=>?_,λh=>by rw[h];exact Nat.beq_refl _⟩
   have e:=Nat.eq_of_beq_eq_true h
   rw[si,si] at e
   unfold small at d f
   rw[List.all_eq_true] at d f
   have:=se (λc g=>Nat.le_of_ble_eq_true (d c (List.mem_reverse.mp g))) (λc g=>Nat.le_of_ble_eq_true (f c (List.mem_reverse.mp g))) e
   have:=List.reverse_inj.mp this
   obtain⟨x⟩:=a;obtain⟨y⟩:=b
   simp only at this
   rw[Array.toList_inj.mp this]
theorem xa(a b:Str):sq a b=decide (a=b):=by rw[Bool.eq_iff_iff,d7,decide_eq_true_iff]
theorem pk(a b:Str):sq a b=(a==b):=by rw[Bool.eq_iff_iff,d7,beq_iff_eq]
theorem jO(a:Str):sq a a=true:=d7.mpr rfl
theorem dr{a:Type}(x:Str)(l:List (Str×a)):lk x l=l.lookup x:=by
 induction l with
 |nil=>rfl
 |cons e r i=>
  show _=match x==e.1 with|true=>some e.2|false=>r.lookup x
  rw[jN,pk,i]
  cases x==e.1<;>rfl
theorem kY{a:Type}(y k:Str)(v:a)(r:List (Str×a)):((k,v)::r).lookup y=if y=k then some v else r.lookup y:=by
 rw[List.lookup_cons]
 by_cases h:y=k
 ·rw[if_pos h,beq_iff_eq.mpr h]
 ·rw[if_neg h,beq_eq_false_iff_ne.mpr h]
theorem jP(x:Str)(v:V)(y:Str)(l):(put x v l).lookup y=if y=x then some v else l.lookup y:=by
 induction l with
 |nil=>exact kY y x v []
 |cons e r i=>
  rw[ph,xa]
  by_cases k:x=e.1
  ·rw[decide_eq_true k,cond_true,kY]
   show _=if _ then _ else((e.1,e.2)::r).lookup y
   rw[kY,←k]
   by_cases h:y=x
   ·rw[if_pos h,if_pos h]
   ·rw[if_neg h,if_neg h,if_neg h]
  ·rw[decide_eq_false k,cond_false]
   show((e.1,e.2)::_).lookup y=if _ then _ else((e.1,e.2)::r).lookup y
   rw[kY,kY,i]
   by_cases h:y=x
   ·rw[if_pos h,if_pos h,if_neg λq=>k (h.symm.trans q)]
   ·rw[if_neg h,if_neg h]
theorem gK{a b:Int}:dR a b=true↔a=b:=by
 cases a with
 |ofNat a=>cases b with
  |ofNat b=>exact⟨λh=>congrArg Int.ofNat (Nat.eq_of_beq_eq_true h),λh=>Int.ofNat.inj h▸Nat.beq_refl _⟩
  |negSucc b=>exact⟨(λh=>nomatch h),(λh=>nomatch h)⟩
 |negSucc a=>cases b with
  |ofNat b=>exact⟨(λh=>nomatch h),(λh=>nomatch h)⟩
  |negSucc b=>exact⟨λh=>congrArg Int.negSucc (Nat.eq_of_beq_eq_true h),λh=>Int.negSucc.inj h▸Nat.beq_refl _⟩
theorem xc(a b:Int):dR a b=decide (a=b):=by rw[Bool.eq_iff_iff,gK,decide_eq_true_iff]
theorem kZ{a b:Int}:dY a b=true↔a<=b:=by
 cases a with
 |ofNat a=>cases b with
  |ofNat b=>simp[dY]
  |negSucc b=>simp only[dY,Bool.false_eq_true,false_iff];have:=Int.negSucc_lt_zero b;have:=Int.natCast_nonneg a;simp only[Int.ofNat_eq_natCast];lia
 |negSucc a=>cases b with
  |ofNat b=>simp only[dY,true_iff];have:=Int.negSucc_lt_zero a;have:=Int.natCast_nonneg b;simp only[Int.ofNat_eq_natCast];lia
  |negSucc b=>simp only[dY,Nat.ble_eq,Int.negSucc_eq];exact⟨λh=>Int.neg_le_neg (Int.add_le_add_right (Int.ofNat_le.mpr h) 1),λh=>Int.ofNat_le.mp (Int.le_of_add_le_add_right (Int.le_of_neg_le_neg h))⟩
theorem mz(a b:Int):dY a b=decide (a<=b):=by rw[Bool.eq_iff_iff,kZ,decide_eq_true_iff]
theorem d8{n:Nat}:bS n=true↔n<4096:=by unfold bS;rw[Nat.ble_eq];lia
theorem sj{n:Nat}:kG n=true↔n<900:=by unfold kG;rw[Nat.ble_eq];lia
theorem jQ{k:Int}:inR k=true↔0<=k/\k<4096:=by
 cases k with
 |ofNat n=>unfold inR;rw[d8];exact⟨λh=>⟨Int.natCast_nonneg _,Int.ofNat_lt.mpr h⟩,λh=>Int.ofNat_lt.mp h.2⟩
 |negSucc n=>simp only[inR,Bool.false_eq_true,false_iff];have:=Int.negSucc_lt_zero n;lia
theorem xd{a b:V}(h:cM a b=true):a=b:=by
 cases a<;>cases b<;>first
  |exact nft h
  |rfl
  |exact congrArg V.int (gK.mp h)
  |exact congrArg V.str (d7.mp h)
  |exact congrArg V.ty (Nat.eq_of_beq_eq_true h)
  |exact congrArg V.bi (Nat.eq_of_beq_eq_true h)
  |exact congrArg V.old (Nat.eq_of_beq_eq_true h)
  |exact congrArg V.ref (Nat.eq_of_beq_eq_true h)
  |exact congrArg V.bool (eq_of_beq h)
theorem xe(a:V):cM a a=true:=by
 cases a<;>first
  |rfl
  |exact gK.mpr rfl
  |exact jO _
  |exact Nat.beq_refl _
  |exact beq_self_eq_true _
theorem ef{a b:V}:cM a b=true↔a=b:=⟨xd,λh=>h▸xe a⟩
noncomputable instance:DecidableEq V:=λa b=>decidable_of_iff (cM a b=true) ef
theorem xf(a b:V):cM a b=decide (a=b):=by rw[Bool.eq_iff_iff,ef,decide_eq_true_iff]
theorem HT.pn(f i:Nat):HT.get f i .e=none:=by cases f<;>rfl
noncomputable def HT.fe:HT->Option O×HT×HT
 |.e=>(none,.e,.e)
 |.n v l r=>(v,l,r)
theorem HT.mB(f i:Nat)(t:HT):HT.get (f+1) i t=bif Nat.beq i 0 then t.fe.1 else bif Nat.beq (i % 2) 0 then HT.get f ((i-1)/2) t.fe.2.2 else HT.get f ((i-1)/2) t.fe.2.1:=by
 cases t with
 |n=>rw[←jb,←jb];rfl
 |e=>
  show none=bif Nat.beq i 0 then none else bif Nat.beq (i % 2) 0 then HT.get f ((i-1)/2) .e else HT.get f ((i-1)/2) .e
  rw[HT.pn]
  cases Nat.beq i 0<;>cases Nat.beq (i % 2) 0<;>rfl
theorem HT.xg(o:O)(f i:Nat)(t:HT):HT.put o (f+1) i t=bif Nat.beq i 0 then .n (some o) t.fe.2.1 t.fe.2.2 else bif Nat.beq (i % 2) 0 then .n t.fe.1 t.fe.2.1 (HT.put o f ((i-1)/2) t.fe.2.2) else .n t.fe.1 (HT.put o f ((i-1)/2) t.fe.2.1) t.fe.2.2:=by
 cases t<;>(rw[←jb,←jb];rfl)
theorem xj{i j:Nat}(h:(i+1) % 2=0↔(j+1) % 2=0):j % 2=i % 2:=by
 rw[Nat.add_mod i,Nat.add_mod j] at h
 rcases Nat.mod_two_eq_zero_or_one i with a|a<;>rcases Nat.mod_two_eq_zero_or_one j with b|b<;>rw[a,b] at h⊢<;>exact absurd h (by decide)
theorem sk{c:Type}(x y:c){i j:Nat}(a:Nat.beq i 0=false)(b:Nat.beq j 0=false)(h:Nat.beq (i % 2) 0=Nat.beq (j % 2) 0):(if(j-1)/2=(i-1)/2 then x else y)=if j=i then x else y:=by
 by_cases e:j=i
 ·rw[if_pos e,if_pos (by rw[e])]
 ·refine(if_neg λq=>e ?_).trans (if_neg e).symm
  cases i with
  |zero=>cases a
  |succ i=>cases j with
   |zero=>cases b
   |succ j=>
    have m:j % 2=i % 2:=xj (by rw[←Nat.beq_eq,←Nat.beq_eq,h])
    have q:j/2=i/2:=q
    rw[←Nat.div_add_mod j 2,←Nat.div_add_mod i 2,q,m]
theorem half_lt{i f:Nat}(a:Nat.beq i 0=false)(h:i<f+1):(i-1)/2<f:=by
 exact Nat.lt_of_le_of_lt (Nat.div_le_self _ _) (Nat.lt_of_lt_of_le (Nat.sub_lt (Nat.pos_of_ne_zero (Nat.ne_of_beq_eq_false a)) Nat.one_pos) (Nat.le_of_lt_succ h))
theorem HT.mD(o:O)(f g i j:Nat)(t:HT)(k:i<f)(l:j<g):HT.get g j (HT.put o f i t)=if j=i then some o else HT.get g j t:=by
 induction f generalizing g i j t with
 |zero=>exact absurd k (Nat.not_lt_zero _)
 |succ f h=>
  cases g with
  |zero=>exact absurd l (Nat.not_lt_zero _)
  |succ g=>
   rw[HT.xg,HT.mB,HT.mB]
   cases a:Nat.beq i 0 with
   |true=>
    cases Nat.eq_of_beq_eq_true a
    cases b:Nat.beq j 0 with
    |true=>rw[if_pos (Nat.eq_of_beq_eq_true b)];rfl
    |false=>rw[if_neg (Nat.ne_of_beq_eq_false b)];rfl
   |false=>
    cases b:Nat.beq j 0 with
    |true=>
     rw[if_neg λq=>by rw[←q,b] at a;cases a]
     cases Nat.beq (i % 2) 0<;>rfl
    |false=>
     have h:=λt=>h g ((i-1)/2) ((j-1)/2) t (half_lt a k) (half_lt b l)
     cases c:Nat.beq (i % 2) 0<;>cases d:Nat.beq (j % 2) 0
     ·exact(h _).trans (sk _ _ a b (c.trans d.symm))
     ·exact(if_neg λq=>by rw[q,c] at d;cases d).symm
     ·exact(if_neg λq=>by rw[q,c] at d;cases d).symm
     ·exact(h _).trans (sk _ _ a b (c.trans d.symm))
theorem Hp.get_eq(G:Hp)(i:Nat):G.get i=if i<G.length then G.t.get (i+1) i else none:=by
 unfold Hp.get
 by_cases h:i<G.length
 ·rw[show Nat.ble (Nat.succ i) G.length=true from Nat.ble_eq.mpr h,if_pos h];rfl
 ·rw[show Nat.ble (Nat.succ i) G.length=false from by rw[Bool.eq_false_iff];intro q;exact h (Nat.ble_eq.mp q),if_neg h];rfl
theorem Hp.cj{G:Hp}{i:Nat}{o:O}(h:G.get i=some o):i<G.length:=by
 rw[Hp.get_eq] at h
 split at h
 ·assumption
 ·ext h
@[simp] theorem Hp.length_push (G:Hp) (o:O):(G.push o).length=G.length+1:=by ext G;rfl
@[simp] theorem Hp.length_set (G:Hp) (i:Nat) (o:O):(G.set i o).length=G.length:=by ext G;rfl
theorem Hp.hJ(G:Hp)(o:O)(i:Nat):(G.push o).get i=if i=G.length then some o else G.get i:=by
 rw[Hp.get_eq,Hp.length_push,Hp.get_eq]
 have b:(G.push o).t=HT.put o (G.length+1) G.length G.t:=by ext G;rfl
 by_cases h:i=G.length
 ·rw[if_pos (by lia),if_pos h,b,HT.mD _ _ _ _ _ _ (by lia) (by lia),if_pos h]
 ·rw[if_neg h]
  by_cases a:i<G.length
  ·rw[if_pos (by omega),if_pos a,b,HT.mD _ _ _ _ _ _ (by lia) (by lia),if_neg h]
  ·rw[if_neg (by lia),if_neg a]
theorem Hp.cB(G:Hp)(o:O):(G.push o).get G.length=some o:=by rw[Hp.hJ,if_pos rfl]
theorem Hp.mE{G:Hp}{i:Nat}{o x:O}(h:G.get i=some x):(G.push o).get i=some x:=by
 rw[Hp.hJ,if_neg (Nat.ne_of_lt (Hp.cj h))];exact h
theorem Hp.get_set(G:Hp)(o:O)(i j:Nat):(G.set i o).get j=if j=i then(if j<G.length then some o else none) else G.get j:=by
 rw[Hp.get_eq,Hp.length_set,Hp.get_eq]
 have a:(G.set i o).t=HT.put o (i+1) i G.t:=by ext G;rfl
 by_cases h:j<G.length
 ·rw[if_pos h,if_pos h,if_pos h,a,HT.mD _ _ _ _ _ _ (by lia) (by lia)]
 ·rw[if_neg h,if_neg h,if_neg h];simp
theorem Hp.eN{G:Hp}{i:Nat}{o:O}(h:i<G.length):(G.set i o).get i=some o:=by rw[Hp.get_set,if_pos rfl,if_pos h]
theorem Hp.eg{G:Hp}{i j:Nat}{o:O}(h:i≠j):(G.set i o).get j=G.get j:=by rw[Hp.get_set,if_neg (Ne.symm h)]
noncomputable def Tr.all{a:Type}(p:Nat->a->Bool):Tr a->Bool
 |.leaf=>true
 |.node k v l r=>p k v&&(l.all p&&r.all p)
theorem Tr.fq{a:Type}{p:Nat->a->Bool}{k:Nat}{v:a}{t:Tr a}(h:t.all p=true)(e:t.get k=some v):p k v=true:=by
 induction t with
 |leaf=>cases e
 |node b g l r i c=>
  have h:=Bool.and_eq_true_iff.mp h
  have d:=Bool.and_eq_true_iff.mp h.2
  have e:(@Bool.rec (λj=>Option a) (@Bool.rec (λj=>Option a) (r.get k) (l.get k) (Nat.ble k b)) (some g) (Nat.beq k b))=some v:=e
  generalize q:Nat.beq k b=zz at e
  cases zz with
  |true=>
   rw[Nat.eq_of_beq_eq_true q,←Option.some.inj e];exact h.1
  |false=>
   cases f:Nat.ble k b<;>rw[f] at e
   ·exact c d.2 e
   ·exact i d.1 e
theorem sm{G:Hp}{i j:Nat}{xs ys:List V}{o:Nat->Option (List V)}(a:G.get i=some (.list xs))(b:G.get j=some (.list ys))(h:bS (xs.length+ys.length)=true):bin .Add G (.ref i) (.ref j) o=some (.ok (.ref G.length) (G.push (.list (xs++ys)))):=by
 show((fZ (ed (G.get i)) (ed (G.get j))).map _).map _=_
 rw[a,b]
 show((fY (bS (xs.length+ys.length)) (xs++ys)).map _).map _=_
 rw[h];rfl
theorem xk{G:Hp}{t j:Nat}{xs ys:List V}{o:Nat->Option (List V)}(i:o t=some xs)(a:G.get j=some (.tup ys))(h:(bS (xs.length+ys.length)&&(!xs.isEmpty&&!ys.isEmpty))=true):bin .Add G (.old t) (.ref j) o=some (.ok (.ref G.length) (G.push (.tup (xs++ys)))):=by
 show((f7 (o t) (gE (G.get j))).map _).map _=_
 rw[i,a]
 show((fY (bS (xs.length+ys.length)&&(!xs.isEmpty&&!ys.isEmpty)) (xs++ys)).map _).map _=_
 rw[h];rfl
theorem so{k:Nat}(h:0<k):dR (.ofNat k) 0=false:=by
 cases k with
 |zero=>exact absurd h (Nat.lt_irrefl 0)
 |succ m=>rfl
theorem sr{G:Hp}{m k:Nat}{o:Nat->Option (List V)}(h:0<k):bin .Mod G (.int (.ofNat m)) (.int (.ofNat k)) o=some (.ok (.int (.ofNat (m % k))) G):=by
 show((fY (!dR (.ofNat k) 0) (Int.fmod (m:Int) (k:Int))).map _).map _=_
 rw[so h,←Int.ofNat_fmod];rfl
theorem xl{G:Hp}{m k:Nat}{o:Nat->Option (List V)}(a:0<k)(h:k<=1000000000):bin .FloorDiv G (.int (.ofNat m)) (.int (.ofNat k)) o=some (.ok (.int (.ofNat (m/k))) G):=by
 show((fY (!dR (.ofNat k) 0&&Nat.ble k 1000000000) (Int.fdiv (m:Int) (k:Int))).map _).map _=_
 rw[so a,Nat.ble_eq_true_of_le h,←Int.ofNat_fdiv];rfl
theorem xm{s:Sh}{f:Expr}(h:rX s=some f):∃a,s=.call f a:=by
 cases s<;>first
  |exact nos h
  |exact⟨_,by cases h;rfl⟩
theorem xn{s:Sh}{x:Str}(h:rY s=some x):s=.name x:=by
 cases s<;>first
  |exact nos h
  |(cases h;rfl)
theorem mF{v:V}{n:Int}(h:kH v=some n):v=.int n:=by
 cases v<;>first
  |exact nos h
  |(cases h;rfl)
inductive k9:List V->Src->Prop
 |one {n:Int} (h:0<=n/\n<4096):k9 [.int n] (.cY 0 1 n.toNat)
 |three {a:Int} (h3:-1<=a) (h4:a<=4095):k9 [.int a,.int (-1),.int (-1)] (.cY a (-1) (a+1).toNat)
theorem xo{n:Int}{x:Src}(e:o8 n=some x):k9 [.int n] x:=by
 unfold o8 at e
 split at e
 ·rename_i hm
  ext e
  exact .one (jQ.mp hm)
 ·ext e
theorem xp{a b c:Int}{x:Src}(e:o9 a b c=some x):k9 [.int a,.int b,.int c] x:=by
 unfold o9 at e
 split at e
 ·rename_i hm
  obtain⟨h,i⟩:=Bool.and_eq_true_iff.mp hm
  obtain⟨m,g⟩:=Bool.and_eq_true_iff.mp h
  obtain⟨d,f⟩:=Bool.and_eq_true_iff.mp m
  ext e
  rw[gK.mp d,gK.mp f]
  exact .three (kZ.mp g) (kZ.mp i)
 ·ext e
theorem su{v:List V}{x:Src}(e:gG v=some x):k9 v x:=by
 cases v with
 |nil=>exact nos e
 |cons a v=>cases v with
  |nil=>
   obtain⟨n,h,d⟩:=Option.bind_eq_some_iff.mp e
   rw[mF h]
   exact xo d
  |cons b v=>cases v with
   |nil=>exact nos e
   |cons c v=>cases v with
    |cons=>exact nos e
    |nil=>
     obtain⟨k,h,d⟩:=Option.bind_eq_some_iff.mp e
     obtain⟨l,f,g⟩:=Option.bind_eq_some_iff.mp d
     obtain⟨m,i,j⟩:=Option.bind_eq_some_iff.mp g
     rw[mF h,mF f,mF i]
     exact xp j
theorem xq{a:Type}{o:Option O}{f:List V->Option a}{r:a}(h:(match o with|some (.list xs)=>f xs|_=>.none)=some r):∃xs,o=some (.list xs)/\f xs=some r:=by
 cases o with
 |none=>cases h
 |some o=>cases o<;>first|exact nos h|exact⟨_,rfl,h⟩
theorem sA{a:Type}{o:Option O}{f:List (V×V)->Option a}{r:a}(h:(match o with|some (.dict xs)=>f xs|_=>.none)=some r):∃xs,o=some (.dict xs)/\f xs=some r:=by
 cases o with
 |none=>cases h
 |some o=>cases o<;>first|exact nos h|exact⟨_,rfl,h⟩
theorem xr{a:Type}{o:Option O}{f:List V->Option a}{r:a}(h:(match o with|some (.tup xs)=>f xs|_=>.none)=some r):∃xs,o=some (.tup xs)/\f xs=some r:=by
 cases o with
 |none=>cases h
 |some o=>cases o<;>first|exact nos h|exact⟨_,rfl,h⟩
theorem JX{a:Type}{o:Option O}{f:Nat->Nat->Option a}{r:a}(h:(match o with|some (.inst C d)=>f C d|_=>.none)=some r):∃C d,o=some (.inst C d)/\f C d=some r:=by
 cases o with
 |none=>cases h
 |some o=>cases o<;>first|exact nos h|exact⟨_,_,rfl,h⟩
theorem JY{a:Type}{o:Option O}{f:Option V->Option a}{r:a}(h:(match o with|some (.cell v)=>f v|_=>.none)=some r):∃v,o=some (.cell v)/\f v=some r:=by
 cases o with
 |none=>cases h
 |some o=>cases o<;>first|exact nos h|exact⟨_,rfl,h⟩
theorem JZ{a:Type}{o:Option V}{f:V->Option a}{r:a}(h:(match o with|some x=>f x|.none=>.none)=some r):∃x,o=some x/\f x=some r:=by
 cases o with
 |none=>cases h
 |some o=>exact⟨_,rfl,h⟩
theorem J0{a:Type}{o:Option (List V)}{f:(List V)->Option a}{r:a}(h:(match o with|some x=>f x|.none=>.none)=some r):∃x,o=some x/\f x=some r:=by
 cases o with
 |none=>cases h
 |some o=>exact⟨_,rfl,h⟩
theorem J1{a:Type}{o:Option (List (V×V))}{f:(List (V×V))->Option a}{r:a}(h:(match o with|some x=>f x|.none=>.none)=some r):∃x,o=some x/\f x=some r:=by
 cases o with
 |none=>cases h
 |some o=>exact⟨_,rfl,h⟩
theorem J2{a:Type}{o:Option Nat}{f:Nat->Option a}{r:a}(h:(match o with|some x=>f x|.none=>.none)=some r):∃x,o=some x/\f x=some r:=by
 cases o with
 |none=>cases h
 |some o=>exact⟨_,rfl,h⟩
theorem J3{a:Type}{o:Option Cl}{f:Cl->Option a}{r:a}(h:(match o with|some x=>f x|.none=>.none)=some r):∃x,o=some x/\f x=some r:=by
 cases o with
 |none=>cases h
 |some o=>exact⟨_,rfl,h⟩
theorem J4{a:Type}{o:Option Hp}{f:Hp->Option a}{r:a}(h:(match o with|some x=>f x|.none=>.none)=some r):∃x,o=some x/\f x=some r:=by
 cases o with
 |none=>cases h
 |some o=>exact⟨_,rfl,h⟩
theorem J5{a:Type}{o:Option Bool}{f:Bool->Option a}{r:a}(h:(match o with|some x=>f x|.none=>.none)=some r):∃x,o=some x/\f x=some r:=by
 cases o with
 |none=>cases h
 |some o=>exact⟨_,rfl,h⟩
theorem J6{a:Type}{o:Option (En×Hp)}{f:En->Hp->Option a}{r:a}(h:(match o with|some (Y,G)=>f Y G|.none=>.none)=some r):∃Y G,o=some (Y,G)/\f Y G=some r:=by
 cases o with
 |none=>cases h
 |some o=>exact⟨o.1,o.2,rfl,h⟩
theorem J7{a:Type}{v:V}{f:Nat->Option a}{r:a}(h:(match v with|.ref i=>f i|_=>.none)=some r):∃i,v=.ref i/\f i=some r:=by
 cases v<;>first|exact nos h|exact⟨_,rfl,h⟩
end Mi
namespace Tt
open PySem PySem.W Mi
noncomputable abbrev Bd:List Stmt:=behindTheImports PySem.Challenge.pw_pq1046_01
noncomputable def pt:Stmt->Arguments×List Stmt×Scope
 |.FunctionDef c a b d e f s g h i=>(a,b,s)
 |_=>default
def fp(x m:Nat):Arguments×List Stmt×Scope:=match Bd[x]? with
 |some (.ClassDef a c d b e f g h i j k)=>match b[m]? with
  |some s=>pt s
  |none=>default
 |some s=>pt s
 |none=>default
def glob:Tr (Str×V):=(.node 784667648491496927942054042679935960133423837862627901509 (z "PROCEDURE",.int 3) (.node 40566327947620887472066730655859 (z "Names",.old 1893) (.node 19343569430855660555206757 (z "Rule",.old 926) (.node 19343412633385898428334157 (z "ATOM",.int 3) (.node 9223798647571873907 (z "abs",.bi 1) (.node 9223732676834361431 (z "ROW",.int 4) (.node 4398199603302 (z "If",.old 236) .leaf .leaf) (.node 9223737074927009905 (z "Seq",.old 349) .leaf .leaf)) (.node 9223877812446822514 (z "str",.ty 2) (.node 9223847026089787502 (z "len",.bi 0) .leaf .leaf) .leaf)) (.node 19343523313766777799835737 (z "MANY",.int 7) (.node 19343431080187146803347564 (z "Call",.old 316) (.node 19343421856735945027485785 (z "BODY",.int 1) .leaf .leaf) (.node 19343523313766777793544261 (z "MAKE",.int 2) .leaf .leaf)) (.node 19343550984023625909141618 (z "Pair",.old 482) (.node 19343532537138814652514373 (z "NAME",.int 1) .leaf .leaf) .leaf))) (.node 40566076491151864704011599872115 (z "Alias",.old 689) (.node 19343809238475842235924596 (z "list",.ty 0) (.node 19343615547627883898863723 (z "Walk",.old 1781) (.node 19343587877529365545746548 (z "Text",.old 524) .leaf .leaf) (.node 19343735451499547364163700 (z "dict",.ty 1) .leaf .leaf)) (.node 40566076490856716658094691582035 (z "ALIAS",.int 6) (.node 19343818461812694687154277 (z "made",.old 1244) .leaf .leaf) .leaf)) (.node 40566153862118395397185092976729 (z "EMPTY",.old 374) (.node 40566115176805762510246025101428 (z "Const",.old 66) (.node 40566115176418380735164461350995 (z "CELLS",.int 5) .leaf .leaf) .leaf) (.node 40566308604807773594019497508975 (z "Macro",.old 773) (.node 40566289262123786968468633419884 (z "Local",.old 85) .leaf .leaf) .leaf)))) (.node 178412426956177716390021632155717188066476108 (z "LITERAL",.int 2) (.node 85073674658370624797137979345219879009 (z "Lambda",.old 283) (.node 85073350139894337558302958984743616613 (z "Define",.old 203) (.node 40567024288892985502869412118629 (z "range",.ty 5) (.node 40566424661704903395270532792421 (z "Scope",.old 864) .leaf .leaf) (.node 40567043631881343423228638396528 (z "strip",.old 908) .leaf .leaf)) (.node 85073471834487359243132658681158565996 (z "Global",.old 104) (.node 85073390704462088088249603278174683204 (z "EXPAND",.int 0) .leaf .leaf) .leaf)) (.node 85074932167843422563840051590121652326 (z "key_of",.old 791) (.node 85074080306640068990768153353739305074 (z "Vector",.old 545) (.node 85073958612569303435255932209848123500 (z "Symbol",.old 398) .leaf .leaf) .leaf) (.node 178411746391281615197579902708948352542703684 (z "DERIVED",.old 1655) (.node 85075256686397080916779858451304022118 (z "seq_of",.old 1220) .leaf .leaf) .leaf))) (.node 374159226860115105864183491196759684857947278540908 (z "SetLocal",.old 137) (.node 374156729174526104018542947478808156923518276075603 (z "ELLIPSIS",.str (z "...")) (.node 178412597097604565774497211558184799139004487 (z "NOTHING",.old 909) (.node 178412512026444927896893753248136463451684934 (z "MAKE_IF",.int 0) .leaf .leaf) (.node 178415149216411158711990686087108243824312422 (z "list_of",.old 557) .leaf .leaf)) (.node 374158156421283033428826528411835880644608425721937 (z "MAKE_SEQ",.int 2) (.node 374157799609700139873685019376542139804993724612691 (z "KEYWORDS",.old 1656) .leaf .leaf) .leaf)) (.node 374164400632660882520702524317890329807822967013478 (z "parts_of",.old 1213) (.node 374163151792461034686219179093171752191296956006510 (z "is_plain",.old 1670) (.node 374163151792461034686219140407444067483534512619620 (z "is_named",.old 805) .leaf .leaf) .leaf) (.node 784666526055206556121330411711938440618027879037738680396 (z "MAKE_CALL",.int 1) (.node 784666151918994075684937958225526451519637905801188737125 (z "LocalName",.old 731) .leaf .leaf) .leaf))))) (.node 3451009750368480758348359512008874818970706685370941814111033284886629 (z "SymbolTable",.old 461) (.node 1645579097944721373563352933903279689786348312433184126279876717 (z "_law_datum",.old 1915) (.node 784680369405137970922502732053993191998938128179473154149 (z "read_rule",.old 1061) (.node 784673260662422835141827074958457798966628107928840700020 (z "_law_part",.old 1922) (.node 784673260662422835141827074958457798855947661078737977451 (z "_law_deck",.old 1903) (.node 784668770928144114493283934106112901773848578254004289644 (z "SetGlobal",.old 170) .leaf .leaf) (.node 784673260662422835141827074958457798855947718253338427511 (z "_law_draw",.old 1910) .leaf .leaf)) (.node 784678872827461344418196858401662953877820103911618379892 (z "need_flat",.old 1054) (.node 784678124538623032271962181976132800226353519581955358822 (z "letrec_of",.old 1237) .leaf .leaf) .leaf)) (.node 1645557912723745433473706627038104535453596787833053151328469102 (z "Definition",.old 1371) (.node 784680743552233218503673729212707987443846368583454031973 (z "strip_one",.old 903) (.node 784680369405137971347855731270352991960756215367340130405 (z "reference",.old 1251) .leaf .leaf) (.node 1645557128077797329349041208022293017692556037421153014605938771 (z "CORE_RULES",.old 1390) .leaf .leaf)) (.node 1645568897645796044819977897479865703597392911805106946953969732 (z "RULES_WORD",.str (z "syntax-rules")) (.node 1645560266639515216018743102288094653505324205534994266289340517 (z "GlobalName",.old 752) .leaf .leaf) .leaf))) (.node 1645594006062465352685320384367994839383907725046354484794490981 (z "root_scope",.old 1663) (.node 1645586944324509619275651633740925308229970273043618122803708005 (z "isinstance",.bi 2) (.node 1645583805775512649279893896781333999453111486459587348886716528 (z "expand_top",.old 1806) (.node 1645579097944721373563352933903279689979776443571494007873732723 (z "_law_names",.old 1898) .leaf .leaf) (.node 1645584590409862273199391919954534001141844811609925001660072038 (z "formals_of",.old 1265) .leaf .leaf)) (.node 1645594006058723905996068449532495930586957093387838484169883763 (z "read_rules",.old 1073) (.node 1645588513594705446932144787676522178618719059860879799113220198 (z "keyword_of",.old 1677) .leaf .leaf) .leaf)) (.node 3450999877297197106243484391744502758990023167792670831024403776536641 (z "MAKE_LAMBDA",.int 3) (.node 3450999877297197106243484391744502758665504691505431996004043300274245 (z "MAKE_DEFINE",.int 7) (.node 1645594790700556419904353754448340756498250534361532240091938932 (z "split_list",.old 564) .leaf .leaf) .leaf) (.node 3451009750351218726705324579342485286023709919882161631684855628562546 (z "SchemeError",.old 588) (.node 3450999877308182037273569112424328390717689821495904772454388556890180 (z "MOST_NESTED",.int 150) .leaf .leaf) .leaf)))) (.node 15177701392393982779308477354027396530318161526057339021170745155917773128058536037 (z "SyntaxTrouble",.old 608) (.node 3451060761001911339314725014718109113403641278938282458039559506624620 (z "root_symbol",.old 798) (.node 3451041014942515659663112223580999917680659001609319830718663045939301 (z "first_twice",.old 889) (.node 3451034432924286373342363250986214794018083529159393370594420254048368 (z "bind_at_top",.old 1799) (.node 3451013041343855969204982303456251187032689162016116189091432685895748 (z "UNSPECIFIED",.old 377) .leaf .leaf) (.node 3451034432928994202262915979716110900833865201978876320038909074473068 (z "bound_local",.old 1272) .leaf .leaf)) (.node 3451050887966721029671217222566696572908650589139872955212316668854373 (z "leave_value",.old 1389) (.node 3451045951464033993341725577781687732732169214501605397613641319055475 (z "is_ellipsis",.old 937) .leaf .leaf) .leaf)) (.node 7237378271807766973954447625999373155690039622636567735974530427986668159091 (z "literal_keys",.old 1047) (.node 7237271294726227670418332673681223302769079686193939012942581901418114842740 (z "MachineFault",.old 627) (.node 7237271294696608575832340011258905134016020497444347494967151485512113455182 (z "MOST_WRITTEN",.int 1048576) .leaf .leaf) .leaf) (.node 15177679681294429836233376012947223160524123114742761509962295798907349929830645874 (z "PatternReader",.old 980) (.node 7237385173563986779307958826234982125930703945672161461992630854030670692464 (z "nodes_at_top",.old 1813) .leaf .leaf) .leaf))) (.node 31829962007417806172103173458565065843569685543101383034350920565859215264500505206849650 (z "TemplateReader",.old 1029) (.node 15177860606495978825354243143683437615852164128703650596626416686532518698868015204 (z "is_rules_word",.old 1068) (.node 15177824421419779951134164170744950083444632179568951594418959657779003762975703142 (z "definition_of",.old 1382) (.node 15177788236416049393809349476384551064334160324714937870327115715498278101910028403 (z "_law_meanings",.old 1927) .leaf .leaf) (.node 15177860606495978825354236081937624849461799758458178292807895154687497083163770994 (z "is_identifier",.old 784) .leaf .leaf)) (.node 31829946830396692692338455005898769598453357439704959449402211663872402064003616361939059 (z "Special_scopes",.old 710) (.node 31829855767452230259430887458643252222301234811906402183531502115583819458877099811536972 (z "MAKE_SET_LOCAL",.int 4) .leaf .leaf) .leaf)) (.node 66752045682423979593026004495668613684503479188259135151997456521876684080977662351131765899340 (z "MAKE_SET_GLOBAL",.int 5) (.node 31830326257835098454893502649951063991225646388148907743054462574239793412455306576789605 (z "leave_sequence",.old 1319) (.node 31830204841029334364080914659006113555899496733524305267493364999953114063051362672836720 (z "defined_at_top",.old 1792) .leaf .leaf) .leaf) (.node 66753096029645652876514974951879991265715483292769910490535383740385048326003632172171089936498 (z "need_identifier",.old 1258) (.node 66753032372271392394876818869350173751326845651768319978359216387241684459828411224947288965221 (z "leave_procedure",.old 1298) .leaf .leaf) .leaf))))))
noncomputable def gL:Tr (Nat×Nat×List V):=(.node 1068 (86,0,[]) (.node 805 (57,0,[]) (.node 479 (31,0,[]) (.node 219 (19,1,[]) (.node 120 (16,1,[]) (.node 101 (15,1,[]) (.node 63 (13,1,[]) .leaf .leaf) .leaf) (.node 186 (18,1,[]) (.node 153 (17,1,[]) .leaf .leaf) .leaf)) (.node 395 (29,0,[]) (.node 332 (22,1,[]) (.node 299 (21,1,[]) .leaf .leaf) .leaf) (.node 423 (30,1,[]) (.node 416 (30,0,[]) .leaf .leaf) .leaf))) (.node 749 (52,0,[]) (.node 564 (36,0,[]) (.node 557 (35,0,[.old 374]) (.node 542 (34,0,[]) .leaf .leaf) .leaf) (.node 728 (51,0,[]) (.node 707 (49,0,[]) .leaf .leaf) .leaf)) (.node 791 (55,0,[]) (.node 784 (54,0,[]) (.node 770 (53,0,[]) .leaf .leaf) .leaf) (.node 798 (56,0,[]) .leaf .leaf)))) (.node 958 (80,1,[]) (.node 903 (63,0,[]) (.node 840 (58,3,[]) (.node 826 (58,1,[]) (.node 819 (58,0,[]) .leaf .leaf) .leaf) (.node 889 (61,0,[]) (.node 847 (58,4,[]) .leaf .leaf) .leaf)) (.node 937 (79,0,[]) (.node 923 (78,0,[]) (.node 908 (64,0,[]) .leaf .leaf) .leaf) (.node 951 (80,0,[]) .leaf .leaf))) (.node 1012 (81,2,[]) (.node 977 (80,4,[]) (.node 970 (80,3,[]) (.node 965 (80,2,[]) .leaf .leaf) .leaf) (.node 1005 (81,1,[]) (.node 998 (81,0,[]) .leaf .leaf) .leaf)) (.node 1054 (84,0,[]) (.node 1047 (83,0,[]) (.node 1019 (81,3,[]) .leaf .leaf) .leaf) (.node 1061 (85,0,[]) .leaf .leaf))))) (.node 1705 (170,2,[]) (.node 1312 (119,0,[]) (.node 1258 (111,0,[]) (.node 1220 (105,0,[]) (.node 1213 (104,0,[]) (.node 1073 (87,0,[]) .leaf .leaf) .leaf) (.node 1251 (110,0,[]) (.node 1244 (109,0,[]) .leaf .leaf) .leaf)) (.node 1279 (114,0,[]) (.node 1272 (113,0,[]) (.node 1265 (112,0,[]) .leaf .leaf) .leaf) (.node 1298 (117,0,[]) .leaf .leaf))) (.node 1663 (167,0,[]) (.node 1368 (126,0,[]) (.node 1326 (121,0,[]) (.node 1319 (120,0,[]) .leaf .leaf) .leaf) (.node 1389 (128,0,[]) (.node 1382 (127,0,[]) .leaf .leaf) .leaf)) (.node 1691 (170,0,[]) (.node 1677 (169,0,[]) (.node 1670 (168,0,[]) .leaf .leaf) .leaf) (.node 1698 (170,1,[]) .leaf .leaf)))) (.node 1799 (172,0,[]) (.node 1752 (170,9,[]) (.node 1726 (170,5,[]) (.node 1719 (170,4,[]) (.node 1712 (170,3,[]) .leaf .leaf) .leaf) (.node 1738 (170,7,[]) (.node 1733 (170,6,[]) .leaf .leaf) .leaf)) (.node 1773 (170,12,[]) (.node 1766 (170,11,[]) (.node 1759 (170,10,[]) .leaf .leaf) .leaf) (.node 1792 (171,0,[]) .leaf .leaf))) (.node 1910 (180,0,[]) (.node 1827 (176,0,[]) (.node 1813 (174,0,[]) (.node 1806 (173,0,[]) .leaf .leaf) .leaf) (.node 1903 (179,0,[]) (.node 1834 (176,1,[]) .leaf .leaf) .leaf)) (.node 1927 (183,0,[]) (.node 1922 (182,0,[]) (.node 1915 (181,0,[]) .leaf .leaf) .leaf) (.node 1932 (184,0,[]) .leaf .leaf))))))
def jR:Tr Cl:=(.node 545 ⟨[],542,[z "mark",z "things"]⟩ (.node 236 ⟨[],219,[z "no",z "test",z "yes"]⟩ (.node 137 ⟨[],120,[z "number",z "value"]⟩ (.node 104 ⟨[],101,[z "symbol"]⟩ (.node 66 ⟨[],63,[z "value"]⟩ .leaf .leaf) .leaf) (.node 203 ⟨[],186,[z "symbol",z "value"]⟩ (.node 170 ⟨[],153,[z "symbol",z "value"]⟩ .leaf .leaf) .leaf)) (.node 398 ⟨[],395,[z "number",z "text"]⟩ (.node 349 ⟨[],332,[z "items"]⟩ (.node 316 ⟨[],299,[z "operands",z "operator"]⟩ .leaf .leaf) .leaf) (.node 482 ⟨[],479,[z "car",z "cdr",z "mark"]⟩ (.node 461 ⟨[(z "symbol",423)],416,[z "by_text",z "rows"]⟩ .leaf .leaf) .leaf))) (.node 926 ⟨[],923,[z "depths",z "pattern",z "template"]⟩ (.node 752 ⟨[],749,[z "symbol"]⟩ (.node 731 ⟨[],728,[z "number",z "title"]⟩ (.node 710 ⟨[],707,[z "title",z "word"]⟩ .leaf .leaf) .leaf) (.node 864 ⟨[(z "bind",826),(z "bound",840),(z "find",847)],819,[z "names",z "parent"]⟩ (.node 773 ⟨[],770,[z "literals",z "rules",z "scope"]⟩ .leaf .leaf) .leaf)) (.node 1371 ⟨[],1368,[z "body",z "form",z "formals",z "is_procedure",z "name",z "value"]⟩ (.node 1029 ⟨[(z "node",1005),(z "name",1012),(z "parts",1019)],998,[z "depths"]⟩ (.node 980 ⟨[(z "node",958),(z "name",965),(z "parts",970),(z "row",977)],951,[z "depths",z "literals"]⟩ .leaf .leaf) .leaf) (.node 1893 ⟨[(z "fresh",1834)],1827,[z "last",z "ops",z "root",z "table",z "titles"]⟩ (.node 1781 ⟨[(z "expand",1698),(z "body",1705),(z "procedure",1712),(z "make",1719),(z "give",1726),(z "run",1733),(z "do_make",1738),(z "opened",1752),(z "do_form",1759),(z "do_call",1766),(z "do_body",1773)],1691,[z "jobs",z "nodes",z "uses",z "world",z "written"]⟩ .leaf .leaf) .leaf))))
def pv:Tr (List (V×V)):=(.node 1655 [(.str (z "and"),.old 1572),(.str (z "or"),.old 1579),(.str (z "let"),.old 1586),(.str (z "let*"),.old 1593),(.str (z "letrec"),.old 1598),(.str (z "cond"),.old 1612),(.str (z "case"),.old 1626),(.str (z "do"),.old 1640),(.str (z "delay"),.old 1647),(.str (z "quasiquote"),.old 1654)] (.node 1390 [(.str (z "quote"),.old 1279),(.str (z "if"),.old 1286),(.str (z "lambda"),.old 1293),(.str (z "set!"),.old 1305),(.str (z "begin"),.old 1312),(.str (z "define"),.old 1326),(.str (z "define-syntax"),.old 1326),(.str (z "let-syntax"),.old 1347),(.str (z "letrec-syntax"),.old 1354)] .leaf .leaf) .leaf)
def pz:Tr (List V):=(.node 1656 [.str (z "quote"),.str (z "if"),.str (z "lambda"),.str (z "set!"),.str (z "begin"),.str (z "define"),.str (z "define-syntax"),.str (z "let-syntax"),.str (z "letrec-syntax"),.str (z "and"),.str (z "or"),.str (z "let"),.str (z "let*"),.str (z "letrec"),.str (z "cond"),.str (z "case"),.str (z "do"),.str (z "delay"),.str (z "quasiquote")] (.node 909 [.int 3,.old 374] .leaf .leaf) (.node 1898 [.str (z "if"),.str (z "lambda"),.str (z "let"),.str (z "own"),.str (z "set!"),.str (z "cond")] .leaf .leaf))
noncomputable def sC:Tr Bool:=(.node 1630210 false (.node 20482 false (.node 12290 false (.node 8194 true (.node 4620 false (.node 4101 false (.node 4099 false (.node 4098 false .leaf .leaf) (.node 4100 false .leaf .leaf)) (.node 4494 false (.node 4464 false .leaf .leaf) (.node 4578 false .leaf .leaf))) (.node 4827 false (.node 4785 false (.node 4641 false .leaf .leaf) (.node 4806 false .leaf .leaf)) (.node 4869 false (.node 4848 false .leaf .leaf) .leaf))) (.node 8716 false (.node 8560 false (.node 8196 false (.node 8195 true .leaf .leaf) (.node 8197 false .leaf .leaf)) (.node 8674 false (.node 8590 false .leaf .leaf) .leaf)) (.node 8923 false (.node 8881 false (.node 8737 false .leaf .leaf) (.node 8902 false .leaf .leaf)) (.node 8965 false (.node 8944 false .leaf .leaf) .leaf)))) (.node 16386 false (.node 12812 false (.node 12656 false (.node 12292 false (.node 12291 true .leaf .leaf) (.node 12293 false .leaf .leaf)) (.node 12770 false (.node 12686 false .leaf .leaf) .leaf)) (.node 13019 false (.node 12977 false (.node 12833 false .leaf .leaf) (.node 12998 false .leaf .leaf)) (.node 13061 false (.node 13040 false .leaf .leaf) .leaf))) (.node 16908 false (.node 16752 false (.node 16388 true (.node 16387 false .leaf .leaf) (.node 16389 false .leaf .leaf)) (.node 16866 false (.node 16782 false .leaf .leaf) .leaf)) (.node 17115 false (.node 17073 false (.node 16929 false .leaf .leaf) (.node 17094 false .leaf .leaf)) (.node 17157 false (.node 17136 false .leaf .leaf) .leaf))))) (.node 28674 false (.node 24578 false (.node 21004 false (.node 20848 false (.node 20484 false (.node 20483 false .leaf .leaf) (.node 20485 true .leaf .leaf)) (.node 20962 false (.node 20878 false .leaf .leaf) .leaf)) (.node 21211 false (.node 21169 false (.node 21025 false .leaf .leaf) (.node 21190 false .leaf .leaf)) (.node 21253 false (.node 21232 false .leaf .leaf) .leaf))) (.node 25100 false (.node 24944 false (.node 24580 false (.node 24579 false .leaf .leaf) (.node 24581 false .leaf .leaf)) (.node 25058 false (.node 24974 false .leaf .leaf) .leaf)) (.node 25307 false (.node 25265 false (.node 25121 false .leaf .leaf) (.node 25286 false .leaf .leaf)) (.node 25349 false (.node 25328 false .leaf .leaf) .leaf)))) (.node 1507330 false (.node 29196 false (.node 29040 false (.node 28676 false (.node 28675 false .leaf .leaf) (.node 28677 false .leaf .leaf)) (.node 29154 false (.node 29070 false .leaf .leaf) .leaf)) (.node 29403 false (.node 29361 false (.node 29217 false .leaf .leaf) (.node 29382 false .leaf .leaf)) (.node 29445 false (.node 29424 false .leaf .leaf) .leaf))) (.node 1507852 false (.node 1507696 true (.node 1507332 false (.node 1507331 false .leaf .leaf) (.node 1507333 false .leaf .leaf)) (.node 1507810 false (.node 1507726 false .leaf .leaf) .leaf)) (.node 1508059 false (.node 1508017 false (.node 1507873 false .leaf .leaf) (.node 1508038 false .leaf .leaf)) (.node 1508101 false (.node 1508080 false .leaf .leaf) .leaf)))))) (.node 2908162 false (.node 2232322 false (.node 1974274 false (.node 1630732 false (.node 1630576 false (.node 1630212 false (.node 1630211 false .leaf .leaf) (.node 1630213 false .leaf .leaf)) (.node 1630690 false (.node 1630606 true .leaf .leaf) .leaf)) (.node 1630939 false (.node 1630897 false (.node 1630753 false .leaf .leaf) (.node 1630918 false .leaf .leaf)) (.node 1630981 false (.node 1630960 false .leaf .leaf) .leaf))) (.node 1974796 false (.node 1974640 false (.node 1974276 false (.node 1974275 false .leaf .leaf) (.node 1974277 false .leaf .leaf)) (.node 1974754 true (.node 1974670 false .leaf .leaf) .leaf)) (.node 1975003 false (.node 1974961 false (.node 1974817 false .leaf .leaf) (.node 1974982 false .leaf .leaf)) (.node 1975045 false (.node 1975024 false .leaf .leaf) .leaf)))) (.node 2822146 false (.node 2232844 false (.node 2232688 false (.node 2232324 false (.node 2232323 false .leaf .leaf) (.node 2232325 false .leaf .leaf)) (.node 2232802 false (.node 2232718 false .leaf .leaf) .leaf)) (.node 2233051 false (.node 2233009 false (.node 2232865 true .leaf .leaf) (.node 2233030 false .leaf .leaf)) (.node 2233093 false (.node 2233072 false .leaf .leaf) .leaf))) (.node 2822668 false (.node 2822512 false (.node 2822148 false (.node 2822147 false .leaf .leaf) (.node 2822149 false .leaf .leaf)) (.node 2822626 false (.node 2822542 false .leaf .leaf) .leaf)) (.node 2822875 false (.node 2822833 true (.node 2822689 false .leaf .leaf) (.node 2822854 false .leaf .leaf)) (.node 2822917 false (.node 2822896 false .leaf .leaf) .leaf))))) (.node 3080194 false (.node 2994178 false (.node 2908684 false (.node 2908528 false (.node 2908164 false (.node 2908163 false .leaf .leaf) (.node 2908165 false .leaf .leaf)) (.node 2908642 false (.node 2908558 false .leaf .leaf) .leaf)) (.node 2908891 false (.node 2908849 false (.node 2908705 false .leaf .leaf) (.node 2908870 true .leaf .leaf)) (.node 2908933 false (.node 2908912 false .leaf .leaf) .leaf))) (.node 2994700 false (.node 2994544 false (.node 2994180 false (.node 2994179 false .leaf .leaf) (.node 2994181 false .leaf .leaf)) (.node 2994658 false (.node 2994574 false .leaf .leaf) .leaf)) (.node 2994907 true (.node 2994865 false (.node 2994721 false .leaf .leaf) (.node 2994886 false .leaf .leaf)) (.node 2994949 false (.node 2994928 false .leaf .leaf) .leaf)))) (.node 3166210 false (.node 3080716 false (.node 3080560 false (.node 3080196 false (.node 3080195 false .leaf .leaf) (.node 3080197 false .leaf .leaf)) (.node 3080674 false (.node 3080590 false .leaf .leaf) .leaf)) (.node 3080923 false (.node 3080881 false (.node 3080737 false .leaf .leaf) (.node 3080902 false .leaf .leaf)) (.node 3080965 false (.node 3080944 true .leaf .leaf) .leaf))) (.node 3166732 false (.node 3166576 false (.node 3166212 false (.node 3166211 false .leaf .leaf) (.node 3166213 false .leaf .leaf)) (.node 3166690 false (.node 3166606 false .leaf .leaf) .leaf)) (.node 3166939 false (.node 3166897 false (.node 3166753 false .leaf .leaf) (.node 3166918 false .leaf .leaf)) (.node 3166981 true (.node 3166960 false .leaf .leaf) .leaf)))))))
def tb:Tb where
 glob:=glob
 fn a:=match gL.get a with
  |some p=>let f:=fp p.1 p.2.1;some ⟨p.1,p.2.1,f.1.args.map (·.arg),p.2.2,f.2.1,f.2.2⟩
  |none=>none
 cls a:=jR.get a
 bO a:=pz.get a
 dW a:=pv.get a
 cH:=608
 base:=588
 eM:=sC
 arg:=none
end Tt
namespace Sd
open PySem PySem.W PyProof.Rows PySem.Calls Mi
inductive Ky where
 |i (k:Int)|s (x:Str)|n
 deriving DecidableEq
theorem mG:Slot "NoneType" "__hash__" "NoneType.__hash__" :=
 .of (owner:="NoneType") (n:="__hash__") (by rw[typeLookup_type,builtinLookup_eq_fast];rfl') (by decide+kernel) (by decide+kernel) (by decide+kernel)
  (by first|exact .inl (by decide+kernel)|exact .inr (by decide+kernel)) (by rw[isSubtype_type];rfl')
theorem xt:entryFor table "NoneType.__hash__" =some Builtin.«NoneType.__hash__»:=entryFor_of_fast (by rfl')
theorem xu(a:Value):argsOk "NoneType.__hash__" ⟨[a],[]⟩:=by unfold argsOk;rfl'
section
variable(J:Program)(w:World)
theorem xw{A:Around}{E:Value->Shared->Prop}{s:Shared}{Q:Int->Shared->Prop}(h:Q 0xFCA86420 {s with toks:=s.toks+1}):wpAny (model J w) A (PySem.pyHash .none) Q E s:=by
 unfold PySem.pyHash
 have v:[Value.none].any Value.onHeap=false:=rfl
 refine wpAny_bind ?_
 rw[cRoomFor,if_neg (by rw[v];exact Bool.false_ne_true)];refine wpAny_pure ?_
 refine wpAny_bind (wpAny_specialOf (typeIs_none s) mG.lookup ?_)
 show wpAny _ _ (if(some (Value.builtin "NoneType.__hash__")==some Value.none)=true then _ else _) Q E s
 rw[if_neg (by rw[beq_builtin_none];exact Bool.false_ne_true)]
 refine wpAny_bind (wpAny_specialOf (typeIs_none s) mG.lookup ?_)
 show wpAny _ _ (callSpecialIfBoundUnlessNone? .none "__hash__" _>>=_) Q E s
 refine wpAny_bind (wpAny_callSpecialIfBoundUnlessNone?_slot (typeIs_none s) mG
  (wpAny_call_entry mG (typeIs_none s) xt
    (show wpAny _ _ (do ret (←mkInt 0xFCA86420)) _ _ s from wpAny_ret_mkInt ?_) (xu _)))
 show wpAny _ _ (if(decide (-(2:Int)^63<=0xFCA86420)&&decide ((0xFCA86420:Int)<2^63))=true then _ else _) Q E _
 rw[if_pos (by decide)]
 exact wpAny_pure h
noncomputable def fu:Ky->Value->Bool
 |.i k,v=>Value.isInt k v
 |.s x,v=>Value.isStrOf x v
 |.n,v=>v==.none
noncomputable def mixHash:Ky->Int
 |.i k=>hashInt k
 |.s x=>hashStr w x
 |.n=>0xFCA86420
theorem f_{i:Int}{v:Value}(h:fu (.i i) v=true):∃t,v=.int i t:=by
 obtain⟨t,rfl⟩:=Value.isInt_shape h;exact⟨t,rfl⟩
theorem gf{x:Str}{v:Value}(h:fu (.s x) v=true):∃t,v=.str x t:=by
 obtain⟨t,rfl⟩:=Value.isStrOf_shape h;exact⟨t,rfl⟩
theorem gM{v:Value}(h:fu .n v=true):v=.none:=beq_iff_eq.mp h
theorem jS{A:Around}{E:Value->Shared->Prop}{s:Shared}{u v:Value}{Q:Bool->Shared->Prop}(n:(u==v)=false)(f:∀a b,¬(u=.float a b))
 (h:wpAny (model J w) A (compareOp .Eq u v) (λc d=>wpAny (model J w) A (truthOfDropped c) Q E d) E s):wpAny (model J w) A (PySem.eqBool u v) Q E s:=by
 unfold PySem.eqBool
 refine wpAny_holding ?_
 rw[n]
 clear n
 cases u<;>first|exact absurd rfl (f _ _)|exact wpAny_bind h
theorem xx{A:Around}{E:Value->Shared->Prop}{s:Shared}{a b:Ky}{u v:Value}{Q:Bool->Shared->Prop}(d:fu a u=true)(c:fu b v=true)(h:Q (decide (a=b)) s):
 wpAny (model J w) A (PySem.eqBool u v) Q E s:=by
 cases a with
 |i a=>
  obtain⟨t,rfl⟩:=f_ d
  clear d
  cases b with
  |i b=>
   obtain⟨u,rfl⟩:=f_ c
   clear c
   refine wpAny_eqBool_int ?_
   rw[show(a==b)=decide (Ky.i a=.i b) from by rw[Bool.eq_iff_iff];simp]
   exact h
  |s b=>
   obtain⟨u,rfl⟩:=gf c
   clear c
   exact jS J w (by simp) (by simp) (EqMixed.eq_int_str (wpAny_truthy_bool (by simpa using h)))
  |n=>cases gM c;exact jS J w (by simp) (by simp) (EqNone.eq_int_none (wpAny_truthy_bool (by simpa using h)))
 |s a=>
  obtain⟨t,rfl⟩:=gf d
  clear d
  cases b with
  |i b=>
   obtain⟨u,rfl⟩:=f_ c
   clear c
   exact jS J w (by simp) (by simp) (EqMixed.eq_str_int (wpAny_truthy_bool (by simpa using h)))
  |s b=>
   obtain⟨u,rfl⟩:=gf c
   clear c
   refine wpAny_eqBool_str ?_
   rw[show decide (a=b)=decide (Ky.s a=.s b) from by rw[Bool.eq_iff_iff];simp]
   exact h
  |n=>cases gM c;exact jS J w (by simp) (by simp) (EqNone.eq_str_none (wpAny_truthy_bool (by simpa using h)))
 |n=>
  cases gM d
  clear d
  cases b with
  |i b=>obtain⟨u,rfl⟩:=f_ c;exact jS J w (by simp) (by simp) (EqNone.eq_none_int (wpAny_truthy_bool (by simpa using h)))
  |s b=>obtain⟨u,rfl⟩:=gf c;exact jS J w (by simp) (by simp) (EqNone.eq_none_str (wpAny_truthy_bool (by simpa using h)))
  |n=>
   cases gM c
   clear c
   unfold PySem.eqBool
   exact wpAny_holding (wpAny_bind (wpAny_rule (wpAny_pure (by simpa using h))))
def c_:KeyKind J w Ky where
 is:=fu
 hash:=mixHash w
 inj:=λv a b f c=>by
  cases a with
  |i a=>
   obtain⟨t,rfl⟩:=f_ f
   cases b with
   |i b=>obtain⟨u,e⟩:=f_ c;injection e with e;rw[e]
   |s b=>obtain⟨u,e⟩:=gf c;cases e
   |n=>cases gM c
  |s a=>
   obtain⟨t,rfl⟩:=gf f
   cases b with
   |i b=>obtain⟨u,e⟩:=f_ c;cases e
   |s b=>obtain⟨u,e⟩:=gf c;injection e with e;rw[e]
   |n=>cases gM c
  |n=>
   cases gM f
   cases b with
   |i b=>obtain⟨u,e⟩:=f_ c;cases e
   |s b=>obtain⟨u,e⟩:=gf c;cases e
   |n=>rfl
 byValue:=λk v h=>by
  cases k with
  |i a=>obtain⟨t,rfl⟩:=f_ h;rfl
  |s a=>obtain⟨t,rfl⟩:=gf h;rfl
  |n=>cases gM h;rfl
 pyHash:=λ{A E s k v Q} d h=>by
  cases k with
  |i a=>obtain⟨t,rfl⟩:=f_ d;exact wpAny_pyHash_int h
  |s a=>obtain⟨t,rfl⟩:=gf d;exact wpAny_pyHash_str h
  |n=>cases gM d;exact xw J w h
 eqBool:=λg d h=>xx J w g d h
 «strs»:=λk x t v h=>by
  cases k with
  |i a=>obtain⟨u,e⟩:=f_ h;cases e
  |s a=>
   obtain⟨u,g⟩:=gf h
   injection g with j
   subst j
   cases v<;>rfl
  |n=>cases gM h
end
noncomputable def sD:Nat->String
 |0=>"len"
 |1=>"abs"
 |_=>"isinstance"
noncomputable def tyName:Nat->String
 |0=>"list"
 |1=>"dict"
 |2=>"str"
 |3=>"int"
 |4=>"bool"
 |_=>"range"
noncomputable def VR(X:List Addr):V->Value->Prop
 |.none,v=>v=.none
 |.bool b,v=>v=.bool b
 |.int i,v=>∃t,v=.int i t
 |.str x,v=>∃t,v=.str x t
 |.ty n,v=>v=.type (tyName n)
 |.bi n,v=>v=.builtin (sD n)
 |.old a,v=>v=.ref a
 |.ref i,v=>∃a,X[i]? =some a/\v=.ref a
noncomputable def KR:V->Ky->Prop
 |.int i,k=>k=.i i
 |.str x,k=>k=.s x
 |.none,k=>k=.n
 |_,_=>False
inductive All2{B β:Type}(R:B->β->Prop):List B->List β->Prop
 |nil:All2 R [] []
 |cons {a b l m}:R a b->All2 R l m->All2 R (a::l) (b::m)
theorem All2.one{B β:Type}{R:B->β->Prop}{a:B}{m:List β}(h:All2 R [a] m):∃b,m=[b]/\R a b:=by
 cases h with
 |cons p q=>cases q;exact⟨_,rfl,p⟩
theorem All2.two{B β:Type}{R:B->β->Prop}{a c:B}{m:List β}(h:All2 R [a,c] m):∃b d,m=[b,d]/\R a b/\R c d:=by
 cases h with
 |cons p q=>
  obtain⟨b,rfl,e⟩:=q.one
  exact⟨_,_,rfl,p,e⟩
theorem All2.three{B β:Type}{R:B->β->Prop}{a f c:B}{m:List β}(h:All2 R [a,f,c] m):∃b e d,m=[b,e,d]/\R a b/\R f e/\R c d:=by
 cases h with
 |cons p q=>
  obtain⟨b,e,rfl,g,i⟩:=q.two
  exact⟨_,_,_,rfl,p,g,i⟩
noncomputable def ER(X:List Addr)(e:V×V)(p:Ky×Value):Prop:=KR e.1 p.1/\VR X e.2 p.2
noncomputable def OV(X:List Addr):Option V->Option Value->Prop
 |.none,v=>v=.none
 |some x,v=>∃y,v=some y/\VR X x y
noncomputable def OR(J:Program)(w:World)(X:List Addr):O->Obj->Prop
 |.inst C d,o=>o.cls=.ref C/\o.data=.plain/\∃a,X[d]? =some a/\o.dict=some a
 |.list xs,o=>∃ys n,o={cls:=.type "list",dict:=none,data:=.seq ys n,slots:= #[]}/\All2 (VR X) xs ys.toList
 |.tup xs,o=>∃ys n,o={cls:=.type "tuple",dict:=none,data:=.seq ys n,slots:= #[]}/\All2 (VR X) xs ys.toList
 |.dict s,o=>o.ExactDict/\∃e p k,o.data=.dict e p/\KeysOf (c_ J w) e/\Pairs (c_ J w) e.toList k/\(k.map (·.1)).Nodup/\All2 (ER X) s k
 |.cell v,o=>∃y,o.data=.cell y/\OV X v y
theorem gg{X b:List Addr}(h:X<+:b){i:Nat}{a:Addr}(e:X[i]? =some a):b[i]? =some a:=by
 obtain⟨c,rfl⟩:=h
 rw[List.getElem?_append_left (List.getElem?_eq_some_iff.mp e).1];exact e
theorem VR.pre{X b:List Addr}(h:X<+:b):∀{v:V} {x:Value},VR X v x->VR b v x
 |.none,_,e=>e
 |.bool c,_,e=>e
 |.int c,_,e=>e
 |.str c,_,e=>e
 |.ty c,_,e=>e
 |.bi c,_,e=>e
 |.old c,_,e=>e
 |.ref c,_,⟨a,e,f⟩=>⟨a,gg h e,f⟩
section
variable{B β:Type}{R:B->β->Prop}{l l':List B}{m m':List β}
theorem All2.mono{c:B->β->Prop}(h:∀a b,R a b->c a b)(r:All2 R l m):All2 c l m:=by
 induction r with
 |nil=>exact .nil
 |cons a b i=>exact .cons (h _ _ a) i
theorem All2.length(r:All2 R l m):l.length=m.length:=by
 induction r with
 |nil=>rfl
 |cons a b i=>exact congrArg Nat.succ i
theorem All2.append(r:All2 R l m)(c:All2 R l' m'):All2 R (l++l') (m++m'):=by
 induction r with
 |nil=>exact c
 |cons a b i=>exact .cons a i
theorem All2.get(r:All2 R l m){i:Nat}{a:B}(e:l[i]? =some a):∃b,m[i]? =some b/\R a b:=by
 induction r generalizing i with
 |nil=>exact Mi.nos e
 |cons h t c=>cases i with
  |zero=>obtain rfl:=Option.some.inj e;exact⟨_,rfl,h⟩
  |succ i=>exact c e
theorem All2.get'(r:All2 R l m){i:Nat}{b:β}(e:m[i]? =some b):∃a,l[i]? =some a/\R a b:=by
 induction r generalizing i with
 |nil=>exact Mi.nos e
 |cons h t c=>cases i with
  |zero=>obtain rfl:=Option.some.inj e;exact⟨_,rfl,h⟩
  |succ i=>exact c e
theorem All2.set{a:B}{b:β}(q:R a b)(r:All2 R l m)(i:Nat):All2 R (l.set i a) (m.set i b):=by
 induction r generalizing i with
 |nil=>exact .nil
 |cons h t c=>cases i with
  |zero=>exact .cons q t
  |succ i=>exact .cons h (c i)
theorem All2.take(r:All2 R l m)(n:Nat):All2 R (l.take n) (m.take n):=by
 induction r generalizing n with
 |nil=>rw[List.take_nil,List.take_nil];exact .nil
 |cons h t i=>cases n with
  |zero=>exact .nil
  |succ n=>exact .cons h (i n)
theorem All2.drop(r:All2 R l m)(n:Nat):All2 R (l.drop n) (m.drop n):=by
 induction r generalizing n with
 |nil=>rw[List.drop_nil,List.drop_nil];exact .nil
 |cons h t i=>cases n with
  |zero=>exact .cons h t
  |succ n=>exact i n
theorem All2.reverse(r:All2 R l m):All2 R l.reverse m.reverse:=by
 induction r with
 |nil=>exact .nil
 |cons h t i=>rw[List.reverse_cons,List.reverse_cons];exact i.append (.cons h .nil)
end
theorem OV.pre{X a:List Addr}(h:X<+:a):∀{v:Option V} {x:Option Value},OV X v x->OV a v x
 |.none,_,e=>e
 |some b,_,⟨y,e,f⟩=>⟨y,e,f.pre h⟩
theorem OR.pre{J:Program}{w:World}{X i:List Addr}(h:X<+:i){v:O}{x:Obj}(r:OR J w X v x):OR J w i v x:=by
 cases v with
 |inst C d=>exact⟨r.1,r.2.1,r.2.2.elim λc k=>⟨c,gg h k.1,k.2⟩⟩
 |list xs=>exact r.elim λys k=>k.elim λn k=>⟨ys,n,k.1,k.2.mono λj l r=>r.pre h⟩
 |tup xs=>exact r.elim λys k=>k.elim λn k=>⟨ys,n,k.1,k.2.mono λj l r=>r.pre h⟩
 |dict s=>
  obtain⟨a,b,c,d,e,f,g,n,k⟩:=r
  exact⟨a,b,c,d,e,f,g,n,k.mono λj l r=>⟨r.1,r.2.pre h⟩⟩
 |cell y=>exact r.elim λy k=>⟨y,k.1,k.2.pre h⟩
structure Gd(J:Program)(w:World)(T:Tb)(K:Frag)(H:Heap):Prop where
 k:K.In H
 sys:H.get? sysModules≠none
 old:∀a C,fL a=some C->∃ob,H.get? a=some ob/\ob.cls=.ref C
 xy:∀a C,fL a=some C->∃ob od,InstAt H a ob C (some od)
 bO:∀a xs,T.bO a=some xs->∃ys n,H.get? a=some {cls:=.type "tuple",dict:=none,data:=.seq ys n,slots:= #[]}/\All2 (VR []) xs ys.toList
 dW:∀a es,T.dW a=some es->a≠sysModules/\∃kvs,H.DictOf (c_ J w) a kvs/\All2 (ER []) es kvs
 nolimit:H.NoLimit
 arg:∀a xs,T.arg=some (a,xs)->∃ys n,H.get? a=some {cls:=.type "list",dict:=none,data:=.seq ys n,slots:= #[]}/\All2 (VR []) xs ys.toList
 mH:∃mg mb,H.Ns mainGlobals mg/\H.Ns builtinsNs mb/\∀x v,dp T x=some v->∃y,(∀X,VR X v y)/\(mg x=some y\/(mg x=none/\mb x=some y))
noncomputable def OW(X:List Addr):Option V->Option Value->Prop
 |none,_=>True
 |some v,x=>∃y,x=some y/\VR X v y
theorem OW.pre{X c:List Addr}(h:X<+:c):∀{v:Option V} {x:Option Value},OW X v x->OW c v x
 |none,_,_=>trivial
 |some d,_,⟨y,a,b⟩=>⟨y,a,b.pre h⟩
noncomputable def LR(X:List Addr)(z:List (Str×V))(m:Str->Option Value):Prop:=∀x,OW X (z.lookup x) (m x)
structure Sg(J:Program)(w:World)(H:Heap)(F:List Env)(L:Addr)(X:List Addr)(G:Hp)(loc:List (Str×V))(h:Heap):Prop where
 keep:H.StaysIn h
 off:∀a∈X,H.get? a=none
 nd:X.Nodup
 len:X.length=G.length
 live:∀a∈X,∃ob,h.get? a=some ob
 cell:∀(i:Nat) (o:O) (a:Addr),G.get i=some o->X[i]? =some a->∃ob,h.get? a=some ob/\OR J w X o ob
 eO:H.get? L=none
 b6:L∉X
 above:H.objs.size<=L
 loc:∃m,h.Ns L m/\LR X loc m
 ff:h.FunFrames H F
 dN:∀a∈F.filterMap (·.frame),a∉X
structure bG(Z:Env)(Y:En)(F:List Env)(L:Addr)(X:List Addr):Prop where
 kind:Z.scope.kind=.function
 names:Z.scope.names=Y.sc
 locals:Z.locals=L
 glob:Z.globals=mainGlobals
 blt:Z.builtins=builtinsNs
 fr:∃e0 outer f,F=e0::outer/\e0.frame=some f/\Z.frame=some f
 cells:∀x i,Y.sc.lookup x=some .cell->Y.bF.lookup x=some i->∃a,X[i]? =some a/\Z.cells.lookup x=some a
theorem bG.pre{Z:Env}{Y:En}{F:List Env}{L:Addr}{X b:List Addr}(e:bG Z Y F L X)(h:X<+:b):bG Z Y F L b:=
 ⟨e.kind,e.names,e.locals,e.glob,e.blt,e.fr,λx i j k=>let⟨a,p,q⟩:=e.cells x i j k;⟨a,gg h p,q⟩⟩
structure Step(X:List Addr)(D:List Addr)(h:Heap)(ρ':List Addr)(h':Heap):Prop where
 pre:X<+:ρ'
 new:∀a∈ρ',a∈X\/h.get? a=none
 sE:∀a∈D,a∉ρ'
 keep:∀b o,b∉X->b∉D->h.get? b=some o->h'.get? b=some o
theorem Step.refl{X:List Addr}{h:Heap}:Step X [] h X h:=⟨List.prefix_refl _,λa b=>.inl b,(λc h=>nomatch h),λc d f g e=>e⟩
theorem Step.trans{X c d p:List Addr}{h f g:Heap}(x:Step X p h c f)(y:Step c p f d g):Step X p h d g:=by
 refine⟨x.pre.trans y.pre,λa l=>?_,y.sE,λb o i j e=>?_⟩
 ·rcases y.new a l with k|k
  ·exact x.new a k
  ·by_cases q:a∈X
   ·exact .inl q
   ·refine .inr ?_
    cases e:h.get? a with
    |none=>rfl
    |some o=>
     have:=x.keep a o q (λn=>y.sE a n l) e
     rw[k] at this;ext this
 ·refine y.keep b o (λm=>?_) j (x.keep b o i j e)
  rcases x.new b m with k|k
  ·exact i k
  ·rw[k] at e;ext e
theorem Step.weaken{X j d:List Addr}{h c f}(x:Step X j h c f)(k:∀a∈j,a∈d)(n:∀a∈d,a∉c):Step X d h c f:=⟨x.pre,x.new,n,λb o g i e=>x.keep b o g (λq=>i (k b q)) e⟩
section
variable{J:Program}{w:World}{H:Heap}{F:List Env}{L:Addr}{X:List Addr}{G:Hp}{z:List (Str×V)}{h:Heap}
theorem mI{h a:Heap}{L:Addr}{m:Str->Option Value}(n:h.Ns L m)(k:∀o,h.get? L=some o->a.get? L=some o):a.Ns L m:=
 let⟨o,s,e,b,r⟩:=n;⟨o,s,e,k o b,r⟩
theorem gh{h i H:Heap}:∀{F:List Env},h.FunFrames H F->(∀a∈F.filterMap (·.frame),∀o,h.get? a=some o->(∀v,o.data≠.fields v)->∃d,i.get? a=some d/\∀v,d.data≠.fields v)->i.FunFrames H F:=by
 intro F
 induction F with
 |nil=>intro s t;trivial
 |cons Z r p=>
  intro c k
  obtain⟨a,⟨L,o,f,n,m,l⟩,c⟩:=c
  have q:=k L (by rw[List.filterMap_cons,f];exact .head _) o m l
  obtain⟨d,g,e⟩:=q
  refine⟨a,⟨L,d,f,n,g,e⟩,p c λb j=>k b ?_⟩
  rw[List.filterMap_cons,f];exact .tail _ j
theorem Sg.push(S:Sg J w H F L X G z h){o:O}{ob:Obj}(y:ob.isFreed=false)(r:OR J w (X++[h.objs.size]) o ob):
 Sg J w H F L (X++[h.objs.size]) (G.push o) z (h.push ob)/\Step X [] h (X++[h.objs.size]) (h.push ob):=by
 have g:X<+:X++[h.objs.size]:=List.prefix_append ..
 have d:∀a∈X,a<h.objs.size:=λa c=>let⟨ob,k⟩:=S.live a c;Heap.lt_size k
 have v:L<h.objs.size:=let⟨_,n,_⟩:=S.loc;n.lt
 have u:∀a∈F.filterMap (·.frame),a<h.objs.size:=λa c=>let⟨_,o,e,_⟩:=S.ff.mem c;Heap.lt_size e
 have p:∀b o,h.get? b=some o->(h.push ob).get? b=some o:=λb o e=>Heap.get?_push_of_some _ e
 refine⟨⟨λb o e=>p b o (S.keep b o e),?_,?_,?_,?_,?_,S.eO,?_,S.above,?_,?_,?_⟩,⟨g,?_,(λE h=>nomatch h),λb o E K e=>p b o e⟩⟩
 ·intro a c
  rcases List.mem_append.mp c with k|k
  ·exact S.off a k
  ·rw[List.mem_singleton.mp k];exact S.keep.fresh
 ·refine List.nodup_append.mpr ⟨S.nd,by simp,λa c b A=>?_⟩
  rw[List.mem_singleton.mp A];exact Nat.ne_of_lt (d a c)
 ·simp[S.len]
 ·intro a c
  rcases List.mem_append.mp c with k|k
  ·obtain⟨f,e⟩:=S.live a k;exact⟨f,p _ _ e⟩
  ·rw[List.mem_singleton.mp k];exact⟨ob,Heap.get?_push_size h y⟩
 ·intro i C a j q
  rw[Hp.hJ] at j
  by_cases t:i=G.length
  ·rw[if_pos t] at j
   rw[t,←S.len] at q
   simp at q
   ext j
   subst q
   exact⟨ob,Heap.get?_push_size h y,r⟩
  ·rw[if_neg t] at j
   rw[List.getElem?_append_left (S.len▸Hp.cj j)] at q
   obtain⟨f,k,D⟩:=S.cell i C a j q
   exact⟨f,p _ _ k,D.pre g⟩
 ·intro s
  rcases List.mem_append.mp s with k|k
  ·exact S.b6 k
  ·exact absurd v (by rw[List.mem_singleton.mp k];exact Nat.lt_irrefl _)
 ·obtain⟨m,n,l⟩:=S.loc
  exact⟨m,n.keeps p,λx=>(l x).pre g⟩
 ·exact gh S.ff λa E o e n=>⟨o,p a o e,n⟩
 ·intro a c s
  rcases List.mem_append.mp s with k|k
  ·exact S.dN a c k
  ·exact absurd (u a c) (by rw[List.mem_singleton.mp k];exact Nat.lt_irrefl _)
 ·intro a c
  rcases List.mem_append.mp c with k|k
  ·exact .inl k
  ·refine .inr ?_
   rw[List.mem_singleton.mp k]
   cases e:h.get? h.objs.size with
   |none=>rfl
   |some o=>exact absurd (Heap.lt_size e) (Nat.lt_irrefl _)
theorem Sg.upd(S:Sg J w H F L X G z h){i:Nat}{a:Addr}{o:O}{u:Obj}{g:Heap}(f:X[i]? =some a)(x:Heap.SameBut a h g)(y:g.get? a=some u)(r:OR J w X o u):
 Sg J w H F L X (G.set i o) z g/\Step X [] h X g:=by
 have E:a∈X:=List.mem_of_getElem? f
 have p:∀b,b∉X->g.get? b=h.get? b:=λb s=>x.2 b (λe=>s (e▸E))
 refine⟨⟨λb o e=>(p b λq=>by rw[S.off b q] at e;ext e).trans (S.keep b o e),S.off,S.nd,by simp[S.len],?_,?_,S.eO,S.b6,S.above,?_,?_,S.dN⟩,
  ⟨List.prefix_refl _,λa f=>.inl f,(λQ h=>nomatch h),λb o d Q e=>(p b d).trans e⟩⟩
 ·intro b s
  by_cases q:b=a
  ·rw[q];exact⟨u,y⟩
  ·obtain⟨c,e⟩:=S.live b s;exact⟨c,(x.2 b q).trans e⟩
 ·intro j K b d t
  by_cases v:i=j
  ·subst v
   rw[f] at t;ext t
   have D:i<G.length:=S.len▸(List.getElem?_eq_some_iff.mp f).1
   rw[Hp.eN D] at d;ext d
   exact⟨u,y,r⟩
  ·rw[Hp.eg v] at d
   obtain⟨c,k,M⟩:=S.cell j K b d t
   refine⟨c,(x.2 b λq=>?_).trans k,M⟩
   subst q
   exact v (by
    obtain⟨N,A⟩:=List.getElem?_eq_some_iff.mp f
    obtain⟨P,C⟩:=List.getElem?_eq_some_iff.mp t
    exact(List.getElem_inj S.nd).mp (A.trans C.symm))
 ·obtain⟨m,n,l⟩:=S.loc
  exact⟨m,mI n λo e=>(p L S.b6).trans e,l⟩
 ·exact gh S.ff λb s o e n=>⟨o,(p b (S.dN b s)).trans e,n⟩
theorem Sg.get(S:Sg J w H F L X G z h){i:Nat}{o:O}(e:G.get i=some o):∃a b,X[i]? =some a/\h.get? a=some b/\OR J w X o b:=by
 have l:i<X.length:=S.len▸Hp.cj e
 obtain⟨b,k,r⟩:=S.cell i o X[i] e (by simp[l])
 exact⟨X[i],b,by simp[l],k,r⟩
theorem Sg.fr(S:Sg J w H F L X G z h):∃m,Fr H L h m/\LR X z m:=let⟨m,n,l⟩:=S.loc;⟨m,⟨n,S.keep,S.above⟩,l⟩
variable{M:Model}{A:Around}{E:Value->Shared->Prop}{s:Shared}{Z:Env}{Y:En}{T:Tb}{K:Frag}
theorem k_{x:Str}{v:V}{Q:Value->Shared->Prop}(aa:Gd J w T K H)(S:Sg J w H F L X G Y.loc s.heap)(N:bG Z Y F L X)(e:Mi.name T Y G x=some v)
 (h:∀y,VR X v y->Q y s):wpAny M A (loadName Z x) Q E s:=by
 rw[jc,dr,dr,dr] at e
 split at e
 ·rename_i hk
  obtain⟨m,n,l⟩:=S.loc
  have l':=l x
  rw[e] at l'
  obtain⟨y,u,r⟩:=l'
  exact wpAny_loadName_local N.kind (by show Z.scope.names.lookup x=_;rw[N.names];exact hk) (N.locals▸n) u (h y r)
 ·rename_i hk
  split at e
  case h_2=>ext e
  rename_i i hi
  split at e
  ·rename_i v' p
   subst e
   obtain⟨a,d,f⟩:=N.cells x i hk hi
   obtain⟨R,D,b,o,y,j,r⟩:=S.get p
   rw[d] at b;ext b
   obtain⟨ab,rfl,r⟩:=r
   exact wpAny_loadName_cell N.kind (by show Z.scope.names.lookup x=_;rw[N.names];exact hk) f ⟨D,o,j⟩ (h ab r)
  ·ext e
 ·rename_i hk
  obtain⟨mg,W,g,C,k⟩:=aa.mH
  obtain⟨y,r,q⟩:=k x v e
  have c:wpAny M A (loadGlobal Z x) Q E s:=by
   rcases q with q|⟨O,P⟩
   ·exact Calls.loadGlobal_global (N.glob▸g.keeps S.keep) q (h y (r X))
   ·exact Calls.loadGlobal_builtin (N.glob▸g.keeps S.keep) O (N.blt▸C.keeps S.keep) P (h y (r X))
  unfold loadName
  have t:Z.kindOf x=some .globalImplicit:=by show Z.scope.names.lookup x=_;rw[N.names];exact hk
  simp only[Env.blockKind,N.kind,t,ScopeKind.isAnnotationScope,Bool.false_and,Bool.false_eq_true,if_false]
  exact c
 ·ext e
theorem KR.iff{k c:V}{a b:Ky}(h:KR k a)(d:KR c b):cM k c=decide (a=b):=by
 rw[xf]
 cases k<;>first|exact False.elim h|obtain rfl:=h
 all_goals cases c<;>first|exact False.elim d|obtain rfl:=d
 all_goals simp[BEq.beq,decide_eq_decide]<;>first|rfl|skip
theorem mJ{X:List Addr}{k:V}{k':Ky}(a:KR k k'):∀{s:List (V×V)} {v:List (Ky×Value)},All2 (ER X) s v->OV X (cb k s) (valueAt v k'):=by
 intro s v h
 induction h with
 |nil=>rfl
 |@cons e p l m h t i=>
  rw[my,h.1.iff a]
  by_cases q:p.1=k'
  ·simp[q,valueAt];exact⟨p.2,rfl,h.2⟩
  ·simp[q,valueAt];simpa [valueAt] using i
theorem sF{X:List Addr}{k v:V}{k':Ky}{y:Value}(c:KR k k')(d:VR X v y):∀{b:List (V×V)} {s:List (Ky×Value)},All2 (ER X) b s->(s.map (·.1)).Nodup->
 All2 (ER X) (dput k v b) (stored s k' y):=by
 intro b s h
 induction h with
 |nil=>intro o;exact .cons ⟨c,d⟩ .nil
 |@cons e p l m h t i=>
  intro n
  have f:p.1∉m.map (·.1)/\(m.map (·.1)).Nodup:=List.nodup_cons.mp n
  have i:=i f.2
  unfold dput
  rw[h.1.iff c]
  by_cases q:p.1=k'
  ·have a:stored (p::m) k' y=(p.1,y)::m:=by
    unfold stored
    rw[if_pos (by simp[q])]
    simp only[List.map_cons,q,if_true]
    rw[map_store_of_not_mem m k' y (q▸f.1)]
   rw[a]
   simp only[q,decide_true,if_true]
   exact .cons ⟨q▸h.1,d⟩ t
  ·have a:stored (p::m) k' y=p::stored m k' y:=by
    unfold stored
    by_cases j:(m.any λg=>decide (g.1=k'))=true
    ·rw[if_pos (by simp[j]),if_pos j];simp[q]
    ·rw[if_neg (by simpa [q] using j),if_neg j];rfl
   rw[a]
   simp only[q,decide_false,Bool.false_eq_true,if_false]
   exact .cons h i
theorem Sg.dict(S:Sg J w H F L X G z h){i:Nat}{s:List (V×V)}(e:G.get i=some (.dict s)):∃a k,X[i]? =some a/\h.DictOf (c_ J w) a k/\All2 (ER X) s k:=by
 obtain⟨a,j,b,o,x,n,p,k,d,c,g,f,r⟩:=S.get e
 exact⟨a,k,b,⟨j,n,p,o,x,d,c,g,f⟩,r⟩
theorem OR.dict{a:Addr}{k:List (Ky×Value)}{s:List (V×V)}(d:h.DictOf (c_ J w) a k)(r:All2 (ER X) s k):∃o,h.get? a=some o/\OR J w X (.dict s) o:=by
 obtain⟨o,e,p,f,x,b,c,g,n⟩:=d
 exact⟨o,f,x,e,p,k,b,c,g,n,r⟩
theorem Sg.list(S:Sg J w H F L X G z h){i:Nat}{xs:List V}(e:G.get i=some (.list xs)):∃a ys n,X[i]? =some a/\IsL h a ys n/\All2 (VR X) xs ys.toList:=by
 obtain⟨a,c,b,o,ys,n,rfl,r⟩:=S.get e
 exact⟨a,ys,n,b,o,r⟩
theorem Sg.tup(S:Sg J w H F L X G z h){i:Nat}{xs:List V}(e:G.get i=some (.tup xs)):∃a ys n,X[i]? =some a/\h.get? a=some {cls:=.type "tuple",dict:=none,data:=.seq ys n,slots:= #[]}/\All2 (VR X) xs ys.toList:=by
 obtain⟨a,c,b,o,ys,n,rfl,r⟩:=S.get e
 exact⟨a,ys,n,b,o,r⟩
theorem OR.list{a:Addr}{ys:Array Value}{xs:List V}{n:Nat}(d:IsL h a ys n)(r:All2 (VR X) xs ys.toList):∃o,h.get? a=some o/\OR J w X (.list xs) o:=⟨_,d,ys,n,rfl,r⟩
theorem Sg.mK(S:Sg J w H F L X G z h)(s:H.get? sysModules≠none){i:Nat}{a:Addr}(e:X[i]? =some a):(a==sysModules)=false:=
 beq_eq_false_iff_ne.mpr λq=>s (q▸S.off a (List.mem_of_getElem? e))
theorem xA{k v:V}:∀{a:List (V×V)} {s:List (Ky×Value)},All2 (ER X) a s->cb k a=some v->∃b,KR k b:=by
 intro a s h
 induction h with
 |nil=>intro e;ext e
 |@cons x p l m h t i=>
  intro e
  rw[my] at e
  by_cases q:cM x.1 k=true
  ·have:=ef.mp q;exact⟨p.1,this▸h.1⟩
  ·rw[Bool.not_eq_true] at q;rw[q] at e;exact i e
theorem lg{k:V}{y:Value}(h:VR X k y){b:Ky}(a:KR k b):(c_ J w).is b y=true:=by
 cases k<;>simp only[KR] at a<;>subst a
 ·ext h;rfl
 ·obtain⟨t,rfl⟩:=h;simp[c_,fu,Value.isInt]
 ·obtain⟨t,rfl⟩:=h;simp[c_,fu,Value.isStrOf]
theorem item_dict{a:Addr}{b:List (Ky×Value)}{e:List (V×V)}{k v:V}{y:Value}{Q:Value->Shared->Prop}(d:s.heap.DictOf (c_ J w) a b)(r:All2 (ER X) e b)(c:cb k e=some v)(j:VR X k y)
 (h:∀n tk,VR X v n->Q n {s with toks:=tk}):wpAny (model J w) A (getItem (.ref a) y) Q E s:=by
 obtain⟨m,f⟩:=xA r c
 have g:=mJ f r
 rw[c] at g
 obtain⟨n,l,i⟩:=g
 exact wpAny_getItem_of (lg (J:=J) (w:=w) j f) d.mapOf l (h n _ i)
noncomputable def je(H:Heap)(L:Addr)(h:Heap):List (Addr×Obj):=
 (List.range h.objs.size).filterMap λb=>if b=L then none else match H.get? b with
   |some a=>none
   |none=>(h.get? b).map λo=>(b,o)
theorem pA{H:Heap}{L:Addr}{h:Heap}{b:Addr}{o:Obj}:(b,o)∈je H L h↔h.get? b=some o/\b≠L/\H.get? b=none:=by
 unfold je
 rw[List.mem_filterMap]
 constructor
 ·rintro⟨c,hc,e⟩
  split at e
  ·ext e
  ·rename_i g
   split at e
   ·ext e
   ·rename_i f
    generalize q:h.get? c=zz at e
    cases zz with
    |none=>ext e
    |some i=>simp at e;obtain⟨rfl,rfl⟩:=e;exact⟨q,g,f⟩
 ·rintro⟨a,c,d⟩
  exact⟨b,List.mem_range.mpr (Heap.lt_size a),by rw[if_neg c,d,a];rfl⟩
theorem xB(H:Heap)(L:Addr)(h:Heap):News H L h (je H L h):=λp a=>pA.mp a
theorem pB{f:Addr->Option (Addr×Obj)}(h:∀a p,f a=some p->p.1=a):∀{l:List Addr},l.Nodup->((l.filterMap f).map (·.1)).Nodup
 |[],_=>.nil
 |a::r,n=>by
  have d:=List.nodup_cons.mp n
  rw[List.filterMap_cons]
  cases q:f a with
  |none=>exact pB h d.2
  |some p=>
   refine List.nodup_cons.mpr ⟨λm=>?_,pB h d.2⟩
   obtain⟨o,c,e⟩:=List.mem_map.mp m
   obtain⟨b,k,g⟩:=List.mem_filterMap.mp c
   have i:=h _ _ g
   have j:=h _ _ q
   clear q
   have e:o.1=p.1:=e
   exact d.1 (by rw[←j,←e,i];exact k)
theorem xC(H:Heap)(L:Addr)(h:Heap):((je H L h).map (·.1)).Nodup:=by
 refine pB (λa p e=>?_) List.nodup_range
 split at e
 ·ext e
 ·split at e
  ·ext e
  ·generalize q:h.get? a=zz at e
   cases zz with
   |none=>ext e
   |some o=>simp at e;rw[←e]
theorem xD{H:Heap}{L:Addr}{h:Heap}{d:Addr}{o:Obj}(g:h.get? d=some o)(c:d≠L)(b:H.get? d=none):
 ∃r s,je H L h=r++(d,o)::s/\(∀p∈r,p.1≠d)/\∀p∈s,p.1≠d:=by
 obtain⟨r,s,e⟩:=List.append_of_mem (pA.mpr ⟨g,c,b⟩)
 refine⟨r,s,e,λp a q=>?_,λp a q=>?_⟩<;>have n:=xC H L h<;>rw[e] at n<;>simp only[List.map_append,List.map_cons,List.nodup_append,List.nodup_cons] at n
 ·exact n.2.2 p.1 (List.mem_map_of_mem a) d (.head _) q
 ·exact n.2.1.1 (q▸List.mem_map_of_mem a)
theorem xE{H:Heap}{L:Addr}{h g:Heap}{d:Addr}{o s:Obj}{m:Str->Option Value}{r p:List (Addr×Obj)}(e:je H L h=r++(d,o)::p)
 (F:Fr H L h m)(j:Fr H L g m)(N:News H L g (r++(d,s)::p)):∀b f,b≠d->b≠L->h.get? b=some f->g.get? b=some f:=by
 intro b f l n c
 cases q:H.get? b with
 |some a=>
  have:=F.keep b a q
  rw[c] at this;ext this
  clear c
  exact j.keep b _ q
 |none=>
  have i:(b,f)∈je H L h:=pA.mpr ⟨c,n,q⟩
  clear c
  rw[e] at i
  rcases List.mem_append.mp i with k|k
  ·exact(N _ (List.mem_append.mpr (.inl k))).1
  ·clear i
   rcases List.mem_cons.mp k with k|k
   ·ext k;exact absurd rfl l
   ·exact(N _ (List.mem_append.mpr (.inr (.tail _ k)))).1
variable{loc':List (Str×V)}
theorem eP{h:Heap}{L:Addr}{m:Str->Option Value}(n:h.Ns L m):∃o,h.get? L=some o/\∀v,o.data≠.fields v:=by
 obtain⟨o,s,e,a,d,b⟩:=n
 exact⟨o,a,λv q=>by rw[d] at q;cases q⟩
theorem Sg.xF(S:Sg J w H F L X G z h){i:Nat}{a:Addr}{o:O}{f:Obj}{t:Heap}{m:Str->Option Value}(l:X[i]? =some a)(s:∀b f,b≠a->b≠L->h.get? b=some f->t.get? b=some f)
 (A:t.get? a=some f)(r:OR J w X o f)(y:t.Ns L m)(v:LR X loc' m):Sg J w H F L X (G.set i o) loc' t/\Step X [L] h X t:=by
 have x:a∈X:=List.mem_of_getElem? l
 refine⟨⟨λb o e=>s b o (λq=>by rw[q,S.off a x] at e;ext e) (λq=>by rw[q,S.eO] at e;ext e) (S.keep b o e),S.off,S.nd,by simp[S.len],?_,?_,S.eO,S.b6,S.above,⟨m,y,v⟩,?_,S.dN⟩,
  ⟨List.prefix_refl _,λa l=>.inl l,λb p=>by rw[List.mem_singleton.mp p];exact S.b6,λb o g d e=>s b o (λq=>g (q▸x)) (λq=>d (by rw[q];exact .head _)) e⟩⟩
 ·intro b p
  by_cases q:b=a
  ·rw[q];exact⟨f,A⟩
  ·obtain⟨c,e⟩:=S.live b p;exact⟨c,s b c q (λP=>S.b6 (P▸p)) e⟩
 ·intro j E b g d
  by_cases u:i=j
  ·subst u
   rw[l] at d;ext d
   have v:i<G.length:=S.len▸(List.getElem?_eq_some_iff.mp l).1
   rw[Hp.eN v] at g;ext g
   exact⟨f,A,r⟩
  ·rw[Hp.eg u] at g
   obtain⟨c,k,K⟩:=S.cell j E b g d
   refine⟨c,s b c (λq=>?_) (λq=>S.b6 (q▸List.mem_of_getElem? d)) k,K⟩
   clear s
   subst q
   exact u (by
    obtain⟨M,C⟩:=List.getElem?_eq_some_iff.mp l
    obtain⟨N,D⟩:=List.getElem?_eq_some_iff.mp d
    exact(List.getElem_inj S.nd).mp (C.trans D.symm))
 ·refine gh S.ff λb p o e n=>?_
  by_cases q:b=L
  ·rw[q];exact eP y
  ·exact⟨o,s b o (λq=>S.dN b p (q▸x)) q e,n⟩
theorem sG{B:Type}{p q:B->Bool}:∀{l:List B},(∀e∈l,p e=q e)->l.find? p=l.find? q
 |[],_=>rfl
 |a::r,h=>by
  rw[List.find?_cons,List.find?_cons,h a (.head _),sG λe b=>h e (.tail _ b)]
theorem sH{B:Type}{p q:B->Bool}:∀{l:List B},(∀e∈l,p e=q e)->l.findIdx? p=l.findIdx? q
 |[],_=>rfl
 |a::r,h=>by
  rw[List.findIdx?_cons,List.findIdx?_cons,h a (.head _),sH λe b=>h e (.tail _ b)]
structure gN(K:Frag)(C:Nat)(cl:Cl):Prop where
 get:findIn K (.ref C) "__getattribute__" =some (some (.builtin "object.__getattribute__"))/\findIn K (.ref C) "__getattr__" =some none
 hasDict:hasDictIn K C=true
 setattr:findIn K (.ref C) "__setattr__" =some (some (.builtin "object.__setattr__"))
 over:plainOver K C=true
 attr:∀n∈cl.attrs,∃a,findIn K (.ref C) n=some a/\noGet K a=true/\takerIn K C n=some none
 fm:∀p∈cl.meths,findIn K (.ref C) p.1=some (some (.ref p.2))/\isFn K (.ref p.2)=true/\fnIn K p.2=true
 notCls:(clsIn K C).isSome=true
theorem pC{o:Obj}{b:List (V×V)}{n:Str}(r:OR J w X (.dict b) o):∃y,lookIn n o=some y/\OV X (cb (.str n) b) y:=by
 obtain⟨x,t,j,v,d,g,p,l,i⟩:=r
 have h:∀e∈t,e.key.isStr n=(c_ J w).is (.s n) e.key:=λe a=>((c_ J w).strs (.s n) n 0 e.key (by simp[c_,fu,Value.isStrOf])).symm
 have f:(t.toList.find? (·.key.isStr n)).map (·.val)=valueAt v (.s n):=by
  rw[←p.find]
  rw[sG λe a=>h e (Array.mem_toList_iff.mp a)]
 refine⟨valueAt v (.s n),?_,mJ (k:=.str n) (k':=.s n) rfl i⟩
 unfold lookIn
 rw[d]
 dsimp only
 generalize q:t.toList.find? (·.key.isStr n)=zz at f
 cases zz with
 |some e=>rw[←f];rfl
 |none=>
  rw[←f]
  have:t.toList.any (·.refKey)=false:=by
   rw[List.any_eq_false]
   intro e a
   obtain⟨k,c,u⟩:=g e (Array.mem_toList_iff.mp a)
   have:=(c_ J w).byValue k e.key c
   unfold DictEntry.refKey
   cases m:e.key<;>simp_all [carriedByValue]
  simp[this]
theorem pD(S:Sg J w H F L X G z h){i C d:Nat}{s:List (V×V)}(n:G.get i=some (.inst C d))(m:G.get d=some (.dict s)):
 ∃a c x f,X[i]? =some a/\X[d]? =some c/\InstAt h a x C (some f)/\x.dict=some c/\h.get? c=some f/\OR J w X (.dict s) f:=by
 obtain⟨a,x,k,p,l,q,c,e,g⟩:=S.get n
 obtain⟨j,f,b,o,r⟩:=S.get m
 rw[e] at b;ext b
 exact⟨a,c,x,f,k,e,⟨p,l,by unfold notCls;rw[q],by rw[g];exact o⟩,g,o,r⟩
theorem VR.handed{v:V}{y:Value}(h:VR X v y)(n:∀s,v≠.bi s):handedIn y=true:=by
 cases v<;>simp only[VR] at h
 ·subst h;rfl
 ·subst h;rfl
 ·obtain⟨t,rfl⟩:=h;rfl
 ·obtain⟨t,rfl⟩:=h;rfl
 ·subst h;rfl
 ·exact absurd rfl (n _)
 ·subst h;rfl
 ·obtain⟨a,b,rfl⟩:=h;rfl
theorem sI{T:Tb}{C:Nat}{n:Str}(h:eY T C n=true):∃c,T.cls C=some c/\n∈c.attrs:=by
 unfold eY at h
 generalize q:T.cls C=zz at h
 cases zz with
 |none=>ext h
 |some c=>
  obtain⟨m,a,e⟩:=List.any_eq_true.mp h
  exact⟨c,rfl,d7.mp e▸a⟩
theorem xG{r:Option V}{v:V}(e:fK r=some v):r=some v/\∀s,v≠.bi s:=by
 cases r with
 |none=>ext e
 |some u=>
  have h:∀s,u≠.bi s:=λs q=>by subst q;ext e
  have k:some u=some v:=by cases u<;>first|exact e|exact absurd rfl (h _)
  exact⟨k,Option.some.inj k▸h⟩
theorem sJ{o v:V}{n:Str}{x:Value}{p:Bool}{Q:Value->Shared->Prop}(aa:Gd J w T K H)(j:∀C c,T.cls C=some c->gN K C c)(S:Sg J w H F L X G z s.heap)(e:dq T G o n=some v)(P:VR X o x)
 (h:∀y tk,VR X v y->Q y {s with toks:=tk}):wpAny (model J w) A (getAttr x n p) Q E s:=by
 unfold dq at e
 split at e
 ·rename_i i
  split at e
  ·rename_i C d hi
   split at e
   ·rename_i hc
    split at e
    ·rename_i es hd
     obtain⟨a,da,ox,od,D,M,ab,R,N,r⟩:=pD S hi hd
     obtain⟨a',b,rfl⟩:=P
     rw[D] at b;ext b
     obtain⟨c,l,t⟩:=sI hc
     have O:=j C c l
     obtain⟨m,q,u,f3⟩:=O.attr n t
     obtain⟨y,W,f⟩:=pC (n:=n) r
     obtain⟨e,nb⟩:=xG e
     rw[e] at f
     obtain⟨ae,rfl,g⟩:=f
     exact get_value ((aa.k).keeps S.keep) ab O.get.1 (findObj_own O.hasDict q u W) (g.handed nb) (h ae _ g)
    ·ext e
   ·ext e
  ·ext e
 ·ext e
theorem xH{E:Obj}{A:List (V×V)}{n:Str}{v:V}{y:Value}{t:Tok}(r:OR J w X (.dict A) E)(Q:VR X v y):
 ∃o:List DictEntry,∃k,(Obj.putName n (PyData.keyHash w.params n) (.str n t) y E).data=.dict o.toArray k/\o.length<=A.length+1/\
  OR J w X (.dict (dput (.str n) v A)) (Obj.putName n (PyData.keyHash w.params n) (.str n t) y E):=by
 obtain⟨x,c,u,m,K,C,d,D,M⟩:=r
 obtain⟨oc,T,S,W⟩:=E
 simp only at K;subst K
 have f:(c_ J w).is (.s n) (.str n t)=true:=by simp[c_,fu,Value.isStrOf]
 have g:∀e∈c,e.key.isStr n=(c_ J w).is (.s n) e.key:=λe L=>((c_ J w).strs (.s n) n 0 e.key (by simp[c_,fu,Value.isStrOf])).symm
 have l:A.length=c.size:=by rw[M.length,←d.length,Array.length_toList]
 have j:c.findIdx? (·.key.isStr n)=c.toList.findIdx? λe=>(c_ J w).is (.s n) e.key:=by
  have aa:c.findIdx? (·.key.isStr n)=c.toList.findIdx? (·.key.isStr n):=by ext c;simp
  rw[aa]
  exact sH λe L=>g e (Array.mem_toList_iff.mp L)
 clear g
 rw[Obj.putName_eq]
 unfold Obj.putNameByArray
 dsimp only
 rw[j]
 have R:=sF (k:=.str n) (k':=.s n) rfl Q M D
 cases q:c.toList.findIdx? λe=>(c_ J w).is (.s n) e.key with
 |some i=>
  dsimp only
  refine⟨(c.modify i λe=>{e with val:=y}).toList,u,by rw[Array.toArray_toList],by simp[l],x,_,u,_,rfl,C.modify i y,?_,?_,R⟩
  ·clear C l
   have:=d.modify D q y
   rw[d.findIdx] at q
   clear d
   have a:=any_of_findIdx_some q
   unfold stored
   rw[if_pos a]
   simpa using this
  ·unfold stored
   rw[d.findIdx] at q
   clear d
   rw[if_pos (any_of_findIdx_some q),keys_map_store];exact D
 |none=>
  dsimp only
  have N:=not_mem_of_findIdx_none (d.findIdx _▸q)
  have O:stored m (.s n) y=m++[(.s n,y)]:=by
   clear d
   unfold stored
   rw[if_neg]
   intro h
   obtain⟨p,F,e⟩:=List.any_eq_true.mp h
   exact N (List.mem_map.mpr ⟨p,F,of_decide_eq_true e⟩)
  refine⟨(c.push ⟨PyData.keyHash w.params n,.str n t,y⟩).toList,u+1,by rw[Array.toArray_toList],by simp[l],x,_,u+1,stored m (.s n) y,rfl,?_,?_,?_,R⟩
  ·exact C.push f y
  ·rw[O];simpa using d.append f (PyData.keyHash w.params n) y
  ·clear C d l
   rw[O,List.map_append]
   refine List.nodup_append.mpr ⟨D,by simp,λa P b H e=>N ?_⟩
   simp at H;subst H;subst e;exact P
theorem sL{o v:V}{n:Str}{x y:Value}{I:Hp}{Q:Unit->Shared->Prop}(af:Gd J w T K H)(TC:∀C g,T.cls C=some g->gN K C g)(S:Sg J w H F L X G z s.heap)(e:dQ T G o n v=some I)(hx:VR X o x)(hy:VR X v y)
 (h:∀b tk,Sg J w H F L X I z b->Step X [L] s.heap X b->Q () {s with heap:=b,toks:=tk}):wpAny (model J w) A (setAttr x n y) Q E s:=by
 unfold dQ at e
 split at e
 ·rename_i i
  split at e
  ·rename_i C d hi
   split at e
   ·rename_i hc
    split at e
    ·rename_i es hd
     split at e
     ·rename_i hl
      ext e
      obtain⟨a,da,ox,od,ha,f,ag,D,u,r⟩:=pD S hi hd
      obtain⟨a',c,rfl⟩:=hx
      rw[ha] at c;ext c
      obtain⟨g,p,j⟩:=sI hc
      have O:=TC C g p
      obtain⟨aa,f1,f2,f3⟩:=O.attr n j
      obtain⟨ah,hz,_⟩:=pC (n:=n) r
      obtain⟨m,N,l⟩:=S.fr
      have R:da∈X:=List.mem_of_getElem? f
      obtain⟨ae,W,Y,p1,p2⟩:=xD (H:=H) (L:=L) u (λq=>S.b6 (q▸R)) (S.off _ R)
      refine set_plain (af.k.keeps S.keep) ag O.setattr ?_
      obtain⟨ab,k,q1,q2,q3⟩:=xH (n:=n) (t:=s.toks+1) r hy
      refine osa_dict (s:={s with toks:=s.toks+1}) N (Y▸xB H L s.heap) (af.k.keeps S.keep) ag D O.over f3 O.hasDict (by rw[hz];rfl) p1 p2 rfl q1 (by have:=sj.mp hl;lia) λb M P=>?_
      obtain⟨S',P'⟩:=S.xF f (xE Y N M P) (P _ (List.mem_append.mpr (.inr (.head _)))).1 q3 M.ns l
      exact h b _ S' P'
     ·ext e
    ·ext e
   ·ext e
  ·ext e
 ·ext e
theorem hO(X:List Addr):([]:List Addr)<+:X:=List.nil_prefix
variable{I:Hp}
theorem Sg.sM(S:Sg J w H F L X G z h)(d:Obj):Sg J w H F L X G z (h.push d)/\Step X [] h X (h.push d):=by
 have p:∀b o,h.get? b=some o->(h.push d).get? b=some o:=λb o e=>Heap.get?_push_of_some _ e
 refine⟨⟨λb o e=>p b o (S.keep b o e),S.off,S.nd,S.len,λa c=>(let⟨o,e⟩:=S.live a c;⟨o,p a o e⟩),λi o a g j=>?_,S.eO,S.b6,S.above,?_,gh S.ff λa q o e n=>⟨o,p a o e,n⟩,S.dN⟩,
  ⟨List.prefix_refl _,λa c=>.inl c,(λq h=>nomatch h),λb o q s e=>p b o e⟩⟩
 ·obtain⟨f,k,r⟩:=S.cell i o a g j
  exact⟨f,p _ _ k,r⟩
 ·obtain⟨m,n,l⟩:=S.loc
  exact⟨m,n.keeps p,l⟩
noncomputable def cN(J:Program)(w:World)(H:Heap)(F:List Env)(L:Addr)(X:List Addr)(z:List (Str×V))(s:Shared)(v:V)(I:Hp)(Q:Value->Shared->Prop):Prop:=
 ∀a h tk y,Step X [] s.heap a h->Sg J w H F L a I z h->VR a v y->Q y {s with heap:=h,toks:=tk}
theorem cN.now{v:V}{y:Value}{Q:Value->Shared->Prop}(k:cN J w H F L X z s v G Q)(S:Sg J w H F L X G z s.heap)(r:VR X v y)(tk:Nat):Q y {s with toks:=tk}:=k X s.heap tk y .refl S r
theorem lh(X:List Addr)(a:Addr)(n:Nat)(e:X.length=n):VR (X++[a]) (.ref n) (.ref a):=⟨a,by rw[←e];simp,rfl⟩
theorem cN.list{xs:List V}{ys:List Value}{Q:Value->Shared->Prop}(k:cN J w H F L X z s (.ref G.length) (G.push (.list xs)) Q)(S:Sg J w H F L X G z s.heap)(r:All2 (VR X) xs ys)(tk:Nat):
 Q (.ref s.heap.objs.size) {s with heap:=s.heap.push {cls:=.type "list",data:=.seq ys.toArray},toks:=tk}:=by
 have p:X<+:X++[s.heap.objs.size]:=List.prefix_append ..
 obtain⟨a,P⟩:=S.push (o:=.list xs) (ob:={cls:=.type "list",data:=.seq ys.toArray}) rfl ⟨ys.toArray,0,rfl,by simpa using r.mono λb c q=>q.pre p⟩
 exact k _ _ tk _ P a (lh _ _ _ S.len)
theorem cN.tup{xs:List V}{ys:List Value}{Q:Value->Shared->Prop}(k:cN J w H F L X z s (.ref G.length) (G.push (.tup xs)) Q)(S:Sg J w H F L X G z s.heap)(r:All2 (VR X) xs ys)(tk:Nat):
 Q (.ref s.heap.objs.size) {s with heap:=s.heap.push {cls:=.type "tuple",data:=.seq ys.toArray},toks:=tk}:=by
 have p:X<+:X++[s.heap.objs.size]:=List.prefix_append ..
 obtain⟨a,P⟩:=S.push (o:=.tup xs) (ob:={cls:=.type "tuple",data:=.seq ys.toArray}) rfl ⟨ys.toArray,0,rfl,by simpa using r.mono λb c q=>q.pre p⟩
 exact k _ _ tk _ P a (lh _ _ _ S.len)
theorem cN.iy{Q:Value->Shared->Prop}(k:cN J w H F L X z s (.ref G.length) (G.push (.dict [])) Q)(S:Sg J w H F L X G z s.heap)(tk:Nat):
 Q (.ref s.heap.objs.size) {s with heap:=s.heap.push {cls:=.type "dict",data:=.dict #[]},toks:=tk}:=by
 obtain⟨a,P⟩:=S.push (o:=.dict []) (ob:={cls:=.type "dict",data:=.dict #[]}) rfl ⟨⟨rfl,rfl,rfl⟩, #[],0,[],rfl,λb h=>by simp at h,.nil,.nil,.nil⟩
 exact k _ _ tk _ P a (lh _ _ _ S.len)
theorem cN.upd{i:Nat}{a:Addr}{o:O}{b:Obj}{v:V}{y:Value}{h:Heap}{Q:Value->Shared->Prop}(k:cN J w H F L X z s v (G.set i o) Q)(S:Sg J w H F L X G z s.heap)
 (d:X[i]? =some a)(e:Heap.SameBut a s.heap h)(n:h.get? a=some b)(r:OR J w X o b)(q:VR X v y)(tk:Nat):Q y {s with heap:=h,toks:=tk}:=by
 obtain⟨c,P⟩:=S.upd d e n r
 exact k _ _ tk _ P c q
theorem sN(j:Gd J w T K H)(S:Sg J w H F L X G z h){v:V}{x:Value}{xs:List V}(e:fN T G v=some xs)(f:VR X v x):
 ∃a ys n,x=.ref a/\(IsL h a ys n\/IsT h a ys n)/\All2 (VR X) xs ys.toList:=by
 cases v<;>try exact Mi.nos e
 case ref i=>
  obtain⟨a,d,rfl⟩:=f
  unfold fN at e
  dsimp only at e
  cases c:G.get i with
  |none=>rw[c] at e;ext e
  |some o=>
   rw[c] at e
   cases o<;>try exact Mi.nos e
   case list s=>
    ext e
    obtain⟨g,ys,n,b,l,r⟩:=S.list c
    rw[d] at b;ext b
    exact⟨a,ys,n,rfl,.inl l,r⟩
   case tup s=>
    ext e
    obtain⟨g,ys,n,b,l,r⟩:=S.tup c
    rw[d] at b;ext b
    exact⟨a,ys,n,rfl,.inr l,r⟩
 case old t=>
  obtain⟨ys,n,q,r⟩:=j.bO _ _ e
  exact⟨t,ys,n,f,.inr (S.keep _ _ q),r.mono λk m p=>p.pre (hO X)⟩
theorem xI{o i v:V}{x y:Value}{Q:Value->Shared->Prop}(aa:Gd J w T K H)(S:Sg J w H F L X G z s.heap)(e:Mi.sub T G o i=some v)(C:VR X o x)(D:VR X i y)
 (h:∀ab tk,VR X v ab->Q ab {s with toks:=tk}):wpAny (model J w) A (getItem x y) Q E s:=by
 unfold Mi.sub at e
 split at e
 ·rename_i k
  split at e
  ·rename_i f
   have f:=jQ.mp f
   obtain⟨t,rfl⟩:=D
   obtain⟨xs,l,m⟩:=Option.bind_eq_some_iff.mp e
   obtain⟨a,ys,n,rfl,c,r⟩:=sN aa S l C
   obtain⟨ab,g,N⟩:=r.get m
   rw[Array.getElem?_toList] at g
   rcases c with c|c
   ·exact wpAny_getItem_list c.isList f.1 (by lia) g (h ab _ N)
   ·refine PyProof.Rows.getItem_tuple (j:=k.toNat) ⟨_,c,rfl,n,rfl⟩ (by lia) (by lia) ?_ g (h ab _ N)
    have:=(Array.getElem?_eq_some_iff.mp g).1
    unfold seqIndex?
    simp only[]
    rw[if_neg (show¬k<0 by lia),if_pos (by simp;lia)]
  ·ext e
 ·rename_i f
  split at e
  ·rename_i d
   obtain⟨R,hd,e⟩:=Mi.sA e
   obtain⟨a,M,W,O,r⟩:=S.dict hd
   obtain⟨a',b,rfl⟩:=C
   rw[W] at b;ext b
   exact item_dict O r e D h
  ·rename_i d
   obtain⟨R,l,m⟩:=Option.bind_eq_some_iff.mp e
   obtain⟨hn,M,⟨o,u,P,ho,q⟩,r⟩:=aa.dW _ _ l
   ext C
   exact item_dict ⟨o,u,P,S.keep _ _ ho,q⟩ (r.mono λ_ _ p=>⟨p.1,p.2.pre (hO X)⟩) m D h
  ·ext e
theorem mM{k:V}(e:isKey k=true):∃a,KR k a:=by
 cases k<;>first|exact⟨_,rfl⟩|specialize e
theorem xJ{l:Addr}{i:Array Value}{n:Nat}{k:Int}{t:Tok}{v:Value}{Q:Unit->Shared->Prop}(b:IsL s.heap l i n)(h:0<=k)(e:k<4096)(d:k.toNat<i.size)
 (c:Q () {s with heap:=s.heap.update l (Obj.mapSeq (·.setIfInBounds k.toNat v))}):wpAny (model J w) A (setItem (.ref l) (.int k t) v) Q E s:=by
 have y:s.TypeIs (.ref l) "list" :=b.isList.typeIs
 unfold setItem
 try with_reducible refine wpAny_holding ?_
 first|refine wpAny_bind (wpAny_pure ?_)|skip
 refine wpAny_bind (wpAny_sequenceKey y (by decide) ?_)
 refine wpAny_bind (wpAny_callSpecial?_slot (name:=Str.ofString "__setitem__") y slot_list_setitem (wpAny_call_entry slot_list_setitem y entry_list_setitem ?_ (args_list_setitem _ _ _)))
 show wpAny _ _ (Builtin.List.listSubscript? (.int k t)>>=_) _ _ s
 refine wpAny_bind (wpAny_listSubscript_int (fitsIndex_of h (by lia)) ?_)
 obtain⟨j,rfl⟩:=Int.eq_ofNat_of_zero_le h
 clear h
 have a:j<i.size:=d
 show wpAny _ _ ((seqItemAt l j>>=λr=>pure (r.map (j,·)))>>=_) _ _ s
 refine wpAny_bind (wpAny_bind (wpAny_seqItemAt b rfl (wpAny_pure ?_)))
 rw[Array.getElem?_eq_getElem a]
 show wpAny _ _ (setSeqItemAt l j v>>=_) _ _ s
 refine wpAny_bind (wpAny_setSeqItemAt b rfl ?_)
 first
  |exact wpAny_bind (wpAny_pure (wpAny_pure ⟨.none,rfl,wpAny_pure c⟩))
  |exact wpAny_pure ⟨.none,rfl,wpAny_pure c⟩
theorem xK{o i v:V}{x y aa:Value}{Q:Unit->Shared->Prop}(S:Sg J w H F L X G z s.heap)(e:fj G o i v=some I)(hx:VR X o x)(M:VR X i y)(N:VR X v aa)
 (h:∀j tk,Sg J w H F L X I z j->Step X [] s.heap X j->Q () {s with heap:=j,toks:=tk}):wpAny (model J w) A (setItem x y aa) Q E s:=by
 unfold fj at e
 split at e
 ·rename_i d
  obtain⟨a,m,rfl⟩:=hx
  split at e
  ·rename_i xs hd
   split at e
   ·rename_i k
    split at e
    ·rename_i hk
     ext e
     obtain⟨c,l⟩:=Bool.and_eq_true_iff.mp hk
     have c:=jQ.mp c
     have l:=Nat.ble_eq.mp l
     obtain⟨O,ys,n,b,D,r⟩:=S.list hd
     rw[m] at b;ext b
     obtain⟨t,rfl⟩:=M
     have K:xs.length=ys.size:=by simpa using r.length
     refine xJ D c.1 c.2 (by lia) ?_
     obtain⟨ob,f,u⟩:=OR.list (J:=J) (w:=w) (D.update (·.setIfInBounds k.toNat aa)) (xs:=xs.set k.toNat v) (by simpa using r.set N k.toNat)
     obtain⟨p,P⟩:=S.upd m (Heap.SameBut.update ..) f u
     exact h _ _ p P
    ·ext e
   ·ext e
  ·rename_i es hd
   split at e
   ·rename_i hk
    ext e
    obtain⟨c,l⟩:=Bool.and_eq_true_iff.mp hk
    have c:=sj.mp c
    obtain⟨O,q,b,C,r⟩:=S.dict hd
    rw[m] at b;ext b
    obtain⟨k',g⟩:=mM l
    have T:(q.map (·.1)).Nodup:=let⟨_,_,_,_,_,_,_,_,n⟩:=C;n
    refine wpAny_setItem_pairs (lg (J:=J) (w:=w) M g) C (λj R W=>?_) (by rw[←r.length];unfold sizeLine;omega)
    obtain⟨ob,f,u⟩:=OR.dict R (sF g N r T)
    obtain⟨p,P⟩:=S.upd m W f u
    exact h _ _ p P
   ·ext e
  ·ext e
 ·ext e
theorem OR.xM{o:O}{b:Obj}(r:OR J w X o b)(n:eb (some o)=some false):b.cls≠.type "tuple" :=by
 cases o with
 |inst C d=>obtain⟨a,c⟩:=r;rw[a];simp
 |list xs=>obtain⟨ys,n,rfl,c⟩:=r;simp
 |tup xs=>ext n
 |dict e=>obtain⟨⟨a,c⟩,f⟩:=r;rw[a];simp
 |cell v=>ext n
theorem sO{o:O}{r:Bool}(e:eb (some o)=some r):eb (some o)=some false/\r=false:=by
 cases o<;>first|exact Mi.nos e|(specialize e;exact⟨rfl,rfl⟩)
theorem xN{v:Option O}{r:Bool}(e:eb v=some r):∃o,v=some o:=by
 cases v with
 |none=>ext e
 |some o=>exact⟨o,rfl⟩
theorem pE{i:Nat}{p:Addr}{r:Bool}{h:Heap}(S:Sg J w H F L X G z h)(e:eb (G.get i)=some r)(c:X[i]? =some p):r=false/\H.get? p=none/\∃b,h.get? p=some b/\b.cls≠.type "tuple" :=by
 obtain⟨o,q⟩:=xN e
 rw[q] at e
 obtain⟨f,b,a,d,g⟩:=S.get q
 obtain rfl:p=f:=Option.some.inj (c.symm.trans a)
 clear a
 exact⟨(sO e).2,S.off _ (List.mem_of_getElem? c),b,d,g.xM (sO e).1⟩
theorem pF{a:Addr}{h:Heap}(f:Gd J w T K H)(S:Sg J w H F L X G z h)(e:(fL a).isSome=true):∃o,H.get? a=some o/\h.get? a=some o/\o.cls≠.type "tuple" :=by
 obtain⟨d,c⟩:=Option.isSome_iff_exists.mp e
 obtain⟨o,b,k⟩:=f.old _ _ c
 exact⟨o,b,S.keep _ _ b,by rw[k];exactλq=>by cases q⟩
theorem sP{B:Type}{c:Bool}{x:Option B}{r:B}(e:(if c=true then x else .none)=some r):c=true/\x=some r:=by
 cases c with
 |true=>exact⟨rfl,e⟩
 |false=>ext e
theorem xO{i j:Nat}{r:Bool}{x y:Value}{Q:Bool->Shared->Prop}(S:Sg J w H F L X G z s.heap)(e:eZ G (.ref i) (.ref j)=some r)(m:VR X (.ref i) x)(n:VR X (.ref j) y)(h:Q r s):
 wpAny (model J w) A (isSame x y) Q E s:=by
 obtain⟨p,b,rfl⟩:=m
 obtain⟨q,a,rfl⟩:=n
 dsimp only[eZ] at e
 generalize c:Nat.beq i j=zz at e
 cases zz with
 |true=>
  obtain rfl:=Nat.eq_of_beq_eq_true c
  obtain rfl:p=q:=Option.some.inj (b.symm.trans a)
  clear a
  obtain⟨N,O,rfl⟩:=Option.map_eq_some_iff.mp e
  clear e
  exact wpAny_isSame_ref_self h
 |false=>
  obtain⟨M,d,f⟩:=Option.bind_eq_some_iff.mp e
  clear e
  obtain⟨N,O,D,g,u⟩:=pE S d b
  obtain⟨rfl,N,K,l,O⟩:=pE S f a
  refine wpAny_isSame_ref_other (λk=>?_) g l u h
  subst k
  obtain⟨v,o⟩:=List.getElem?_eq_some_iff.mp b
  obtain⟨C,t⟩:=List.getElem?_eq_some_iff.mp a
  clear a
  rw[(List.getElem_inj S.nd).mp (o.trans t.symm),Nat.beq_refl] at c
  ext c
theorem xP{a b:Nat}{r:Bool}{Q:Bool->Shared->Prop}(m:Gd J w T K H)(S:Sg J w H F L X G z s.heap)(e:eZ G (.old a) (.old b)=some r)(h:Q r s):
 wpAny (model J w) A (isSame (.ref a) (.ref b)) Q E s:=by
 dsimp only[eZ] at e
 generalize c:Nat.beq a b=zz at e
 cases zz with
 |true=>
  ext e
  rw[Nat.eq_of_beq_eq_true c]
  exact wpAny_isSame_ref_self h
 |false=>
  obtain⟨l,e⟩:=sP e
  ext e
  clear e
  obtain⟨o,g⟩:=Bool.and_eq_true_iff.mp l
  obtain⟨i,p,d,n⟩:=pF m S o
  obtain⟨j,p,f,q⟩:=pF m S g
  exact wpAny_isSame_ref_other (λk=>by rw[k,Nat.beq_refl] at c;ext c) d f n h
theorem sQ{i a:Nat}{r:Bool}{x:Value}{Q:Bool->Shared->Prop}(u:Gd J w T K H)(S:Sg J w H F L X G z s.heap)(e:eZ G (.ref i) (.old a)=some r)(g:VR X (.ref i) x)(h:Q r s):
 wpAny (model J w) A (isSame x (.ref a)) Q E s/\wpAny (model J w) A (isSame (.ref a) x) Q E s:=by
 obtain⟨p,f,rfl⟩:=g
 obtain⟨o,e⟩:=sP e
 obtain⟨rfl,n,q,b,j⟩:=pE S e f
 clear e
 obtain⟨t,l,c,m⟩:=pF u S o
 have d:p≠a:=λk=>by rw[k,l] at n;ext n
 exact⟨wpAny_isSame_ref_other d b c j h,wpAny_isSame_ref_other d.symm c b m h⟩
theorem xQ{a b:Bool}{Q:Bool->Shared->Prop}(h:Q (a==b) s):wpAny (model J w) A (isSame (.bool a) (.bool b)) Q E s:=by
 refine wpAny_pure ?_
 rw[show(Value.bool a==Value.bool b)=(a==b) from by cases a<;>cases b<;>rfl]
 exact h
theorem sR{a b:V}{r:Bool}{x y:Value}{Q:Bool->Shared->Prop}(f:Gd J w T K H)(S:Sg J w H F L X G z s.heap)(e:eZ G a b=some r)(c:VR X a x)(d:VR X b y)(h:Q r s):
 wpAny (model J w) A (isSame x y) Q E s:=by
 cases a<;>cases b<;>first
  |(specialize e;done)
  |exact xO S e c d h
  |(specialize c;ext d;exact xP f S e h)
  |(specialize d;exact(sQ f S e c h).1)
  |(specialize c;exact(sQ f S e d h).2)
  |(specialize e;ext c;ext d;exact wpAny_pure h)
  |(specialize e;ext c;ext d;exact xQ h)
  |(specialize e;obtain⟨g,rfl⟩:=c;ext d;exact wpAny_pure h)
  |(specialize e;obtain⟨g,rfl⟩:=d;ext c;exact wpAny_pure h)
  |(specialize e;obtain⟨g,rfl⟩:=c;obtain⟨g,i,rfl⟩:=d;exact wpAny_pure h)
  |(specialize e;obtain⟨g,rfl⟩:=d;obtain⟨g,i,rfl⟩:=c;exact wpAny_pure h)
  |(specialize e;obtain⟨g,i,rfl⟩:=d;ext c;exact wpAny_pure h)
  |(specialize e;obtain⟨g,i,rfl⟩:=c;ext d;exact wpAny_pure h)
open PySem.SeqAt
inductive Pr:Value->Value->Bool->Prop
 |nn:Pr .none .none true
 |bb (a b):Pr (.bool a) (.bool b) (a==b)
 |ii (a t b u):Pr (.int a t) (.int b u) (decide (a=b))
 |ss (a t b u):Pr (.str a t) (.str b u) (a==b)
 |ns (b u):Pr .none (.str b u) false
 |sn (a t):Pr (.str a t) .none false
theorem mN{a b:V}{r:Bool}{x y:Value}(e:fM a b=some r)(h:VR X a x)(c:VR X b y):Pr x y r:=by
 cases a<;>cases b<;>first|exact Mi.nos e|skip<;>obtain rfl:=Option.some.inj e<;>clear e
 ·cases h;cases c;exact .nn
 ·cases h;obtain⟨u,rfl⟩:=c;exact .ns _ u
 ·cases h;cases c;exact .bb _ _
 ·obtain⟨t,rfl⟩:=h;obtain⟨u,rfl⟩:=c;rw[xc];exact .ii _ t _ u
 ·cases c;obtain⟨t,rfl⟩:=h;exact .sn _ t
 ·obtain⟨t,rfl⟩:=h;obtain⟨u,rfl⟩:=c;rw[pk];exact .ss _ t _ u
theorem sS{a b:V}{r:Bool}{x y:Value}(e:fM a b=some r)(h:VR X a x)(c:VR X b y):EqAt A s x y r:=by
 cases mN e h c with
 |nn=>exact EqAt.same _
 |bb a b=>exact EqAt.bool_bool _ _
 |ii a t b u=>exact EqAt.int_int (A:=A) (s:=s) a t b u
 |ss a t b u=>exact EqAt.str_str _ _ _ _
 |ns b u=>exact EqAt.none_str _ _
 |sn a t=>exact EqAt.str_none _ _
theorem sT{a b:V}{r:Bool}{x y:Value}{Q:Value->Shared->Prop}(e:fM a b=some r)(c:VR X a x)(d:VR X b y)(h:Q (.bool r) s):wpAny (model J w) A (compareOp .Eq x y) Q E s:=by
 have q:=mN e c d
 clear e c d
 cases q with
 |nn=>exact EqNone.eq_none_none h
 |bb a b=>exact eq_bool h
 |ii a t b u=>exact PyProof.Rows.eq_int h
 |ss a t b u=>exact PyProof.Rows.eq_str h
 |ns b u=>exact EqNone.eq_none_str h
 |sn a t=>exact EqNone.eq_str_none h
theorem sU{a b:V}{r:Bool}{x y:Value}{Q:Value->Shared->Prop}(e:fM a b=some r)(c:VR X a x)(d:VR X b y)(h:Q (.bool (!r)) s):wpAny (model J w) A (compareOp .NotEq x y) Q E s:=by
 have q:=mN e c d
 clear e c d
 cases q with
 |nn=>exact EqNone.ne_none_none h
 |bb a b=>exact ne_bool h
 |ii a t b u=>exact PyProof.Rows.ne_int h
 |ss a t b u=>exact PyProof.Rows.ne_str h
 |ns b u=>exact EqNone.ne_none_str h
 |sn a t=>exact EqNone.ne_str_none h
theorem xR{xs ys:List V}{r:Bool}(e:gX xs ys=some r)(l:xs.length=ys.length):
 (∀(j:Nat) (a b:V),xs[j]? =some a->ys[j]? =some b->∃p,fM a b=some p)/\r=(List.range xs.length).all λj=>((xs[j]?.bind λa=>ys[j]?.bind λb=>fM a b).getD false):=by
 induction xs generalizing ys r with
 |nil=>cases ys with
  |nil=>obtain rfl:=Option.some.inj e;exact⟨λj a b h=>Mi.nos h,rfl⟩
  |cons b y=>exact Nat.noConfusion l
 |cons a x s=>cases ys with
  |nil=>exact Nat.noConfusion l
  |cons b y=>
   obtain⟨p,c,d⟩:=Option.bind_eq_some_iff.mp e
   obtain⟨q,m,rfl⟩:=Option.map_eq_some_iff.mp d
   clear e d
   obtain⟨n,o⟩:=s m (Nat.succ.inj l)
   refine⟨λj i k f g=>?_,?_⟩
   ·cases j with
    |zero=>obtain rfl:=Option.some.inj f;obtain rfl:=Option.some.inj g;exact⟨p,c⟩
    |succ j=>exact n j i k f g
   ·rw[List.length_cons,List.range_succ_eq_map,List.all_cons,List.all_map,o]
    simp[c,Function.comp_def]
theorem xS{i j:Nat}{xs ys:List V}{r:Bool}(S:Sg J w H F L X G z s.heap)(T:G.get i=some (.list xs))(W:G.get j=some (.list ys))(e:(if Nat.beq xs.length ys.length=true then gX xs ys else some false)=some r){x y:Value}(hx:VR X (.ref i) x)(hy:VR X (.ref j) y)(u:A.units<cLine):
 RcAt A s x y r/\RcNeAt A s x y (!r):=by
 obtain⟨a,Q,rfl⟩:=hx
 obtain⟨b,R,rfl⟩:=hy
 obtain⟨a',c,n,h,k,O⟩:=S.list T
 obtain⟨b',d,m,f,o,P⟩:=S.list W
 rw[Q] at h;ext h
 rw[R] at f;ext f
 have N:xs.length=c.size:=by simpa using O.length
 have l2:ys.length=d.size:=by simpa using P.length
 split at e
 ·rename_i l
  have l:=Nat.eq_of_beq_eq_true l
  obtain⟨k1,rfl⟩:=xR e l
  have g:c.size=d.size:=by lia
  have v:∀j (C:j<c.size) (D:j<d.size),EqAt A.in1 s c[j] d[j] ((xs[j]?.bind λa=>ys[j]?.bind λb=>fM a b).getD false):=by
   intro j C D
   obtain⟨p,E,rp⟩:=O.get' (i:=j) (b:=c[j]) (by simp[C])
   obtain⟨q,K,rq⟩:=P.get' (i:=j) (b:=d[j]) (by simp[D])
   obtain⟨t,M⟩:=k1 j p q E K
   rw[E,K]
   simp only[Option.bind_some,M,Option.getD_some]
   exact sS M rp rq
  rw[N]
  exact⟨RcAt.lists k.isList o.isList g u v,RcNeAt.lists k.isList o.isList g u v⟩
 ·rename_i l
  ext e
  have g:(c.size !=d.size)=true:=by
   rw[←N,←l2];simpa using l
  exact⟨RcAt.lists_lengths k.isList o.isList g u,RcNeAt.lists_lengths k.isList o.isList g u⟩
theorem sV{a b:V}{r:Bool}{x y:Value}{Q:Value->Shared->Prop}(S:Sg J w H F L X G z s.heap)(e:ec G a b=some r)(h:VR X a x)(c:VR X b y)(u:A.units<cLine):
 (Q (.bool r) s->wpAny (model J w) A (compareOp .Eq x y) Q E s)/\(Q (.bool (!r)) s->wpAny (model J w) A (compareOp .NotEq x y) Q E s):=by
 unfold ec at e
 cases a<;>try exact⟨λq=>sT e h c q,λq=>sU e h c q⟩
 case ref i=>
  cases b<;>try exact⟨λq=>sT e h c q,λq=>sU e h c q⟩
  case ref j=>
   dsimp only at e
   cases d:G.get i with
   |none=>rw[d] at e;ext e
   |some o=>
    rw[d] at e
    cases o<;>try exact Mi.nos e
    case list xs=>
     cases f:G.get j with
     |none=>rw[f] at e;ext e
     |some o=>
      rw[f] at e
      cases o<;>try exact Mi.nos e
      case list ys=>
       have:=xS (A:=A) S d f e h c u
       exact⟨λq=>cmp_ofEq (this.1 J w E Q q),λq=>cmp_ofNotEq (this.2 J w E Q q)⟩
open PySem.MeetsSeq
noncomputable def gi(y x:Value):Bool:=match y,x with
 |.none,.none=>true
 |.bool a,.bool b=>a==b
 |.int a c,.int b d=>decide (a=b)
 |.str a c,.str b d=>a==b
 |_,_=>false
theorem xT{x y:Value}{r:Bool}(p:Pr y x r):gi y x=r:=by cases p<;>rfl
theorem pG{k:V}{x:Value}(g:VR X k x){xs:List V}{ys:List Value}{a:List Bool}(e:eqs k xs=some a)(q:All2 (VR X) xs ys):a=ys.map (gi · x)/\∀y∈ys,EqGives y x (gi y x):=by
 induction q generalizing a with
 |nil=>ext e;exact⟨rfl,λo h=>nomatch h⟩
 |cons h t n=>
  obtain⟨b,d,f⟩:=Option.bind_eq_some_iff.mp e
  obtain⟨cs,i,rfl⟩:=Option.map_eq_some_iff.mp f
  clear e f
  obtain⟨l,m⟩:=n i
  have q:=xT (mN d h g)
  refine⟨by rw[l,List.map_cons,q],λy c=>?_⟩
  rcases List.mem_cons.mp c with rfl|c
  ·exactλJ w A E s Q j=>sS d h g J w E Q (q▸j)
  ·exact m y c
theorem mO{f:Int->Int->Bool}{a b:V}{r:Bool}(e:iY f a b=some r):∃x y,a=.int x/\b=.int y/\r=f x y:=by
 cases a<;>try exact Mi.nos e
 cases b<;>try exact Mi.nos e
 exact⟨_,_,rfl,rfl,(Option.some.inj e).symm⟩
theorem sW{k:V}{a:Ky}(h:KR k a){e:List (V×V)}{s:List (Ky×Value)}(r:All2 (ER X) e s):(valueAt s a).isSome=inD k e:=by
 have o:=mJ h r
 unfold inD
 generalize q:cb k e=zz at o
 cases zz with
 |none=>rw[show valueAt s a=none from o];rfl
 |some v=>obtain⟨c,b,d⟩:=o;rw[b];rfl
theorem xU{a b:V}{r:Bool}{x y:Value}{Q:Value->Shared->Prop}(aa:Gd J w T K H)(S:Sg J w H F L X G z s.heap)(e:kE T G a b=some r)(p:VR X a x)(C:VR X b y)
 (h:∀tk,Q (.bool r) {s with toks:=tk}):wpAny (model J w) A (compareOp .In x y) Q E s:=by
 cases b<;>try exact Mi.nos e
 case ref i=>
  obtain⟨d,m,rfl⟩:=C
  obtain⟨o,u,e⟩:=Option.bind_eq_some_iff.mp (show(G.get i).bind (kD a)=some r from e)
  cases o<;>try exact Mi.nos e
  case list xs=>
   obtain⟨D,j,rfl⟩:=Option.map_eq_some_iff.mp e
   obtain⟨M,ys,n,c,O,f⟩:=S.list u
   rw[m] at c;ext c
   obtain⟨i1,i2⟩:=pG p j f
   refine SeqInW.in_listW (λy=>gi y x) (λy P=>i2 y (Array.mem_toList_iff.mpr P)) O.isList ?_
   have:(ys.any λy=>gi y x)=D.any id:=by
    rw[i1,List.any_map,←Array.any_toList];rfl
   rw[this];exact h _
  case dict t=>
   have e:(if isKey a then some (inD a t) else .none)=some r:=e
   split at e
   ·rename_i hk
    ext e
    obtain⟨M,v,c,g,f⟩:=S.dict u
    rw[m] at c;ext c
    obtain⟨k',k⟩:=mM hk
    refine wpAny_in_of (lg (J:=J) (w:=w) p k) (S.mK aa.sys m) g.mapOf ?_
    rw[sW k f];exact h _
   ·ext e
 case old d=>
  have e:(if isKey a then(T.dW d).map (inD a) else .none)=some r:=e
  split at e
  ·rename_i hk
   obtain⟨t,j,rfl⟩:=Option.map_eq_some_iff.mp e
   obtain⟨R,v,⟨o,l,N,W,q⟩,f⟩:=aa.dW _ _ j
   ext C
   obtain⟨k',k⟩:=mM hk
   have g:s.heap.DictOf (c_ J w) d v:=⟨o,l,N,S.keep _ _ W,q⟩
   refine wpAny_in_of (lg (J:=J) (w:=w) p k) (beq_eq_false_iff_ne.mpr R) g.mapOf ?_
   rw[sW k f];exact h _
  ·ext e
theorem iF{o:CmpOp}{a b:V}{r:Bool}{x y:Value}{Q:Value->Shared->Prop}(j:Gd J w T K H)(S:Sg J w H F L X G z s.heap)(e:cmp T G o a b=some r)(d:VR X a x)(f:VR X b y)(g:A.units<cLine)
 (h:∀tk,Q (.bool r) {s with toks:=tk}):wpAny (model J w) A (compareOp o x y) Q E s:=by
 cases o with
 |Is=>
  show wpAny _ A (do return .bool (←isSame x y)) Q E s
  exact wpAny_bind (sR j S e d f (wpAny_pure (h _)))
 |IsNot=>
  obtain⟨i,c,rfl⟩:=Option.map_eq_some_iff.mp e
  show wpAny _ A (do return .bool (!(←isSame x y))) Q E s
  exact wpAny_bind (sR j S c d f (wpAny_pure (h _)))
 |Eq=>exact(sV S e d f g).1 (h _)
 |NotEq=>
  obtain⟨i,c,rfl⟩:=Option.map_eq_some_iff.mp e
  exact(sV S c d f g).2 (h _)
 |Lt=>
  obtain⟨p,q,rfl,rfl,rfl⟩:=mO e;obtain⟨t,rfl⟩:=d;obtain⟨u,rfl⟩:=f
  rw[show(!dY q p)=decide (p<q) from by rw[mz,←decide_not];exact decide_eq_decide.mpr Int.not_le] at h
  exact PyProof.Rows.lt_int (h _)
 |LtE=>
  obtain⟨p,q,rfl,rfl,rfl⟩:=mO e;obtain⟨t,rfl⟩:=d;obtain⟨u,rfl⟩:=f
  rw[mz] at h
  exact PyProof.Rows.le_int (h _)
 |Gt=>
  obtain⟨p,q,rfl,rfl,rfl⟩:=mO e;obtain⟨t,rfl⟩:=d;obtain⟨u,rfl⟩:=f
  rw[show(!dY p q)=decide (q<p) from by rw[mz,←decide_not];exact decide_eq_decide.mpr Int.not_le] at h
  exact PyProof.Rows.gt_int (h _)
 |GtE=>
  obtain⟨p,q,rfl,rfl,rfl⟩:=mO e;obtain⟨t,rfl⟩:=d;obtain⟨u,rfl⟩:=f
  rw[mz] at h
  exact PyProof.Rows.ge_int (h _)
 |In=>exact xU j S e d f h
 |NotIn=>ext e
theorem jT{B:Type}{c:Bool}{x y:B}(e:fY c x=some y):c=true/\x=y:=by
 cases c with
 |true=>ext e;exact⟨rfl,rfl⟩
 |false=>ext e
theorem sX{v:Option O}{xs:List V}(e:ed v=some xs):v=some (.list xs):=by
 cases v with
 |none=>ext e
 |some o=>cases o<;>first|(specialize e;done)|(specialize e;rfl)
theorem xV{v:Option O}{xs:List V}(e:gE v=some xs):v=some (.tup xs):=by
 cases v with
 |none=>ext e
 |some o=>cases o<;>first|(specialize e;done)|(specialize e;rfl)
theorem sY{o:Operator}{B:Type}{x:Option B}{y:B}(e:(bif isAdd o then x else .none)=some y):o=.Add/\x=some y:=by
 cases o<;>first|(specialize e;done)|exact⟨rfl,e⟩
theorem nz{x:Int}(h:(!dR x 0)=true):x≠0:=λk=>by subst k;ext h
theorem xW{o:Operator}{x y k:Int}{a b:Value}{Q:Value->Shared->Prop}(e:binI o x y=some k)(i:VR X (.int x) a)(j:VR X (.int y) b)(h:∀t tk,Q (.int k t) {s with toks:=tk}):wpAny (model J w) A (binaryOp o a b) Q E s:=by
 obtain⟨t,rfl⟩:=i
 obtain⟨u,rfl⟩:=j
 cases o<;>first|(specialize e;done)|skip
 ·ext e;exact PyProof.Rows.add_int (h _ _)
 ·ext e;exact PyProof.Rows.sub_int (h _ _)
 ·obtain⟨c,rfl⟩:=jT e
  clear e
  rw[gK.mp c]
  exact PyProof.Rows.mul_int (h _ _) (IntMulOk.of_left (by decide))
 ·obtain⟨c,rfl⟩:=jT e
  clear e
  exact PyProof.Rows.mod_int (nz c) (h _ _)
 ·obtain⟨c,rfl⟩:=jT e
  clear e
  obtain⟨d,f⟩:=Bool.and_eq_true_iff.mp c
  rw[gK.mp d,gK.mp f]
  exact PyProof.Rows.pow_int (by decide) (by decide) (h _ _)
 ·obtain⟨c,rfl⟩:=jT e
  clear e
  obtain⟨d,f⟩:=Bool.and_eq_true_iff.mp c
  rw[Nat.ble_eq] at f
  have g:y.natAbs<1073741824:=by omega
  exact PyProof.Rows.floordiv_int (nz d) (h _ _) (.inl (PyProof.noPylong_small g))
theorem xX{x y:Option (List V)}{l:List V}(e:fZ x y=some l):∃xs ys,x=some xs/\y=some ys/\xs.length+ys.length<4096/\l=xs++ys:=by
 obtain⟨xs,h,a⟩:=Option.bind_eq_some_iff.mp e
 obtain⟨ys,b,e⟩:=Option.bind_eq_some_iff.mp a
 clear a
 obtain⟨c,rfl⟩:=jT e
 clear e
 exact⟨xs,ys,h,b,d8.mp c,rfl⟩
theorem xY{x y:Option (List V)}{l:List V}(e:f7 x y=some l):∃xs ys,x=some xs/\y=some ys/\xs.length+ys.length<4096/\(!xs.isEmpty)=true/\(!ys.isEmpty)=true/\l=xs++ys:=by
 obtain⟨xs,h,a⟩:=Option.bind_eq_some_iff.mp e
 obtain⟨ys,g,e⟩:=Option.bind_eq_some_iff.mp a
 clear a
 obtain⟨c,rfl⟩:=jT e
 clear e
 obtain⟨b,c⟩:=Bool.and_eq_true_iff.mp c
 obtain⟨d,f⟩:=Bool.and_eq_true_iff.mp c
 exact⟨xs,ys,h,g,d8.mp b,d,f,rfl⟩
theorem sZ{xs:List V}{ys:Array Value}(h:(!xs.isEmpty)=true)(r:All2 (VR X) xs ys.toList):ys.isEmpty≠true:=λk=>by
 cases xs with
 |nil=>ext h
 |cons a xs=>
  clear h
  obtain⟨ys⟩:=ys
  cases ys with
  |nil=>ext r
  |cons b ys=>ext k
theorem s4{xs ys:List V}{p q:Array Value}(r:All2 (VR X) xs p.toList)(a:All2 (VR X) ys q.toList)(h:xs.length+ys.length<4096):p.size+q.size<=sizeLine:=by
 rw[r.length,a.length] at h;exact Nat.le_of_lt (Nat.lt_trans h (by decide))
theorem xZ{i j:Nat}{l:List V}{x y:Value}{Q:Value->Shared->Prop}(S:Sg J w H F L X G z s.heap)(e:fZ (ed (G.get i)) (ed (G.get j))=some l)(u:VR X (.ref i) x)(v:VR X (.ref j) y)
 (h:cN J w H F L X z s (.ref G.length) (G.push (.list l)) Q):wpAny (model J w) A (binaryOp .Add x y) Q E s:=by
 obtain⟨xs,ys,d,f,g,rfl⟩:=xX e
 clear e
 obtain⟨p,o,rfl⟩:=u
 obtain⟨q,t,rfl⟩:=v
 obtain⟨K,N,n,a,C,r⟩:=S.list (sX d)
 obtain⟨M,O,m,b,D,c⟩:=S.list (sX f)
 obtain rfl:p=K:=Option.some.inj (o.symm.trans a)
 clear a
 obtain rfl:q=M:=Option.some.inj (t.symm.trans b)
 have k:=h.list S (r.append c) s.toks
 rw[←Array.toList_append] at k
 exact PySem.P.add_list C D k (s4 r c g)
theorem x_{t j:Nat}{l:List V}{x y:Value}{Q:Value->Shared->Prop}(O:Gd J w T K H)(S:Sg J w H F L X G z s.heap)(e:f7 (T.bO t) (gE (G.get j))=some l)(g:VR X (.old t) x)(o:VR X (.ref j) y)
 (h:cN J w H F L X z s (.ref G.length) (G.push (.tup l)) Q):wpAny (model J w) A (binaryOp .Add x y) Q E s:=by
 obtain⟨xs,ys,i,c,d,v,C,rfl⟩:=xY e
 clear e
 ext g
 obtain⟨q,f,rfl⟩:=o
 obtain⟨M,n,p,r⟩:=O.bO _ _ i
 obtain⟨D,N,m,a,u,b⟩:=S.tup (xV c)
 obtain rfl:q=D:=Option.some.inj (f.symm.trans a)
 clear a
 have r:=r.mono λW _ R=>VR.pre (hO X) R
 have k:=h.tup S (r.append b) s.toks
 rw[←Array.toList_append] at k
 exact PySem.P.add_tuple (S.keep _ _ p) u (sZ v r) (sZ C b) k (s4 r b d)
noncomputable def ya(c:Operator)(G:Hp)(a b:V)(o:Nat->Option (List V))(p:V×Hp):Prop:=(∃x y d,a=.int x/\b=.int y/\binI c x y=some d/\p=(.int d,G))\/(c=.Add/\
 ((∃i j l,a=.ref i/\b=.ref j/\fZ (ed (G.get i)) (ed (G.get j))=some l/\p=(.ref G.length,G.push (.list l)))\/∃i j l,a=.old i/\b=.ref j/\f7 (o i) (gE (G.get j))=some l/\p=(.ref G.length,G.push (.tup l))))
theorem yb{d:Operator}{a b:V}{o:Nat->Option (List V)}{p:V×Hp}(e:ml d G a b o=some p):ya d G a b o p:=by
 cases a with
 |int x=>
  cases b with
  |int y=>obtain⟨f,c,rfl⟩:=Option.map_eq_some_iff.mp e;exact Or.inl ⟨_,_,_,rfl,rfl,c,rfl⟩
  |_=>exact nos e
 |ref i=>
  cases b with
  |ref j=>
   dsimp only[ml] at e
   obtain⟨rfl,e⟩:=sY e
   obtain⟨f,c,rfl⟩:=Option.map_eq_some_iff.mp e
   clear e
   exact Or.inr ⟨rfl,Or.inl ⟨_,_,_,rfl,rfl,c,rfl⟩⟩
  |_=>exact nos e
 |old i=>
  cases b with
  |ref j=>
   dsimp only[ml] at e
   obtain⟨rfl,e⟩:=sY e
   obtain⟨f,c,rfl⟩:=Option.map_eq_some_iff.mp e
   clear e
   exact Or.inr ⟨rfl,Or.inr ⟨_,_,_,rfl,rfl,c,rfl⟩⟩
  |_=>exact nos e
 |_=>exact nos e
theorem yc{o:Operator}{a b v:V}{x y:Value}{Q:Value->Shared->Prop}(p:Gd J w T K H)(S:Sg J w H F L X G z s.heap)(e:bin o G a b T.bO=some (.ok v I))(d:VR X a x)(f:VR X b y)
 (h:cN J w H F L X z s v I Q):wpAny (model J w) A (binaryOp o x y) Q E s:=by
 obtain⟨⟨n,m⟩,g,k⟩:=Option.map_eq_some_iff.mp e
 clear e
 cases(k)
 rcases yb g with⟨x,y,q,rfl,rfl,e,c⟩|⟨rfl,⟨i,j,l,rfl,rfl,e,c⟩|⟨i,j,l,rfl,rfl,e,c⟩⟩<;>clear g<;>cases(c)
 ·exact xW e d f λt tk=>h.now S ⟨_,rfl⟩ tk
 ·exact xZ S e d f h
 ·exact x_ p S e d f h
theorem yd{i:Nat}{a:Addr}{xs:List V}{v:V}{y:Value}{Q:Value->Shared->Prop}(S:Sg J w H F L X G z s.heap)(d:G.get i=some (.list xs))(c:X[i]? =some a)(j:xs.length<4096)(e:VR X v y)
 (h:cN J w H F L X z s .none (G.set i (.list (xs++[v]))) Q):∃(t:Array Value) (n:Nat),t.size<=sizeLine/\IsL s.heap a t n/\Q .none {s with heap:=s.heap.update a (Obj.mapSeq λxs=>xs.push y)}:=by
 obtain⟨g,ys,n,b,l,r⟩:=S.list d
 rw[c] at b;ext b
 have k:xs.length=ys.size:=by simpa using r.length
 refine⟨ys,n,by unfold sizeLine;lia,l,?_⟩
 obtain⟨m,o,f⟩:=OR.list (J:=J) (w:=w) (l.update (λxs=>xs.push y)) (xs:=xs++[v]) (by simpa using r.append (.cons e .nil))
 exact h.upd S c (Heap.SameBut.update ..) o f rfl _
theorem ye{i:Nat}{a:Addr}{xs:List V}{v:V}{Q:Value->Shared->Prop}(S:Sg J w H F L X G z s.heap)(g:G.get i=some (.list xs))(d:X[i]? =some a)(u:xs.length<=4096)(f:xs.getLast?=some v)
 (h:cN J w H F L X z s v (G.set i (.list xs.dropLast)) Q):∃(t:Array Value) (n:Nat) (y:Value),t.size<=sizeLine/\IsL s.heap a t n/\t[t.size-1]? =some y/\
   Q y {s with heap:=s.heap.update a (Obj.mapSeq λxs=>xs.eraseIdxIfInBounds (t.size-1))}:=by
 obtain⟨q,ys,n,b,l,r⟩:=S.list g
 rw[d] at b;ext b
 have j:xs.length=ys.size:=by simpa using r.length
 rw[List.getLast?_eq_getElem?] at f
 obtain⟨A,c,m⟩:=r.get f
 rw[Array.getElem?_toList,j] at c
 have p:0<ys.size:=by exact Nat.lt_of_le_of_lt (Nat.zero_le _) (Array.getElem?_eq_some_iff.mp c).1
 refine⟨ys,n,A,by unfold sizeLine;omega,l,c,?_⟩
 obtain⟨x,o,k⟩:=OR.list (J:=J) (w:=w) (l.update (λxs=>xs.eraseIdxIfInBounds (ys.size-1))) (xs:=xs.dropLast) (by
  have e:(ys.eraseIdxIfInBounds (ys.size-1)).toList=ys.toList.dropLast:=by
   rw[Array.eraseIdxIfInBounds,dif_pos (Nat.sub_lt p Nat.one_pos)]
   simp[List.dropLast_eq_take,List.eraseIdx_eq_take_drop_succ]
   exact Nat.le_of_eq (Nat.sub_add_cancel p).symm
  rw[e,List.dropLast_eq_take,List.dropLast_eq_take,r.length]
  exact r.take _)
 exact h.upd S d (Heap.SameBut.update ..) o k m _
theorem yf{i:Nat}{a:Addr}{xs:List V}{v:V}{t:Tok}{Q:Value->Shared->Prop}(S:Sg J w H F L X G z s.heap)(g:G.get i=some (.list (v::xs)))(c:X[i]? =some a)(C:xs.length<=4095)
 (h:cN J w H F L X z s v (G.set i (.list xs)) Q):∃(m:Array Value) (n:Nat) (j:Int) (u:Tok) (k:Nat) (y:Value),m.size<=sizeLine/\Value.int 0 t=.int j u/\IsL s.heap a m n/\Builtin.List.listFitsIndex j=true/\seqIndex? j m.size=some k/\m[k]? =some y/\
   Q y {s with heap:=s.heap.update a (Obj.mapSeq λxs=>xs.eraseIdxIfInBounds k)}:=by
 obtain⟨A,ys,n,b,f,r⟩:=S.list g
 rw[c] at b;ext b
 have l:xs.length+1=ys.size:=by simpa using r.length
 obtain⟨E,d,x⟩:=r.get (i:=0) (a:=v) rfl
 rw[Array.getElem?_toList] at d
 refine⟨ys,n,0,t,0,E,by unfold sizeLine;lia,rfl,f,by decide,?_,d,?_⟩
 ·unfold seqIndex?
  simp
  intro q
  rw[q] at l
  simp at l
 ·obtain⟨D,o,p⟩:=OR.list (J:=J) (w:=w) (f.update (λxs=>xs.eraseIdxIfInBounds 0)) (xs:=xs) (by
   have e:(ys.eraseIdxIfInBounds 0).toList=ys.toList.drop 1:=by
    rw[Array.eraseIdxIfInBounds,dif_pos (by lia)]
    simp[List.eraseIdx_eq_take_drop_succ]
   rw[e]
   exact r.drop 1)
  exact h.upd S c (Heap.SameBut.update ..) o p x _
theorem s5{p:Value->Bool}:∀{l:List Value} {j:Nat},(l.map p).findIdx? id=some j->∃h:j<l.length,p l[j]=true/\∀m (d:m<l.length),m<j->p l[m]=false:=by
 intro l j e
 rw[List.findIdx?_map] at e
 obtain⟨h,a,b⟩:=List.findIdx?_eq_some_iff_getElem.mp e
 exact⟨h,a,λm d c=>by simpa using b m c⟩
theorem yg{i:Nat}{a:Addr}{xs:List V}{k:V}{j:Nat}{y:Value}{Q:Value->Shared->Prop}(S:Sg J w H F L X G z s.heap)(q:G.get i=some (.list xs))(p:X[i]? =some a)(N:xs.length<=4096)(e:idx k xs=some j)(u:VR X k y)
 (h:cN J w H F L X z s (.int (.ofNat j)) G Q):∃(t:Array Value) (n:Nat) (e:Value->Bool) (j:Nat),∃g:j<t.size,IsL s.heap a t n/\(∀P,P∈t->EqGives P y (e P))/\(j:Int)<2^63-1/\e t[j]=true/\
   (∀m (l:m<t.size),m<j->e t[m]=false)/\Q (.int j s.toks) {s with toks:=s.toks+1}:=by
 obtain⟨K,ys,n,b,C,r⟩:=S.list q
 rw[p] at b;ext b
 have O:xs.length=ys.size:=by simpa using r.length
 obtain⟨M,o,f⟩:=Option.bind_eq_some_iff.mp e
 obtain⟨x,A⟩:=pG u o r
 rw[x] at f
 obtain⟨g,D,E⟩:=s5 f
 have c:j<ys.size:=by simpa using g
 exact⟨ys,n,λP=>gi P y,j,c,C,λP v=>A P (Array.mem_toList_iff.mpr v),by omega,by simpa using D,λm l d=>(show gi ys[m] y=gi ys.toList[m] y from by simp).trans (E m (by simpa using l) d),h.now S ⟨_,rfl⟩ _⟩
theorem yh{i:Nat}{a:Addr}{g:List (V×V)}{k d:V}{y E:Value}{Q:Value->Shared->Prop}(S:Sg J w H F L X G z s.heap)(n:G.get i=some (.dict g))(m:X[i]? =some a)(p:isKey k=true)(t:VR X k y)(x:VR X d E)
 (h:cN J w H F L X z s ((cb k g).getD d) G Q):∃e f,(c_ J w).is e y=true/\s.heap.MapOf (c_ J w) a f/\Q ((f e).getD E) {s with toks:=s.toks+1}:=by
 obtain⟨D,j,b,l,A⟩:=S.dict n
 rw[m] at b;ext b
 obtain⟨e,c⟩:=mM p
 refine⟨e,_,lg (J:=J) (w:=w) t c,l.mapOf,h.now S ?_ _⟩
 have o:=mJ c A
 generalize q:cb k g=zz at o
 cases zz with
 |none=>rw[show valueAt j e=none from o];exact x
 |some v=>obtain⟨u,r,C⟩:=o;rw[r];exact C
end
open PySem.SeqAt PySem.MeetsSeq
theorem yi(l:Addr)(t:Array Value)(n:Nat)(x:Value)(e:Value->Bool)(u:∀y,y∈t->EqGives y x (e y))(j:Nat)(E:j<t.size)(f:e t[j]=true)(o:∀m (F:m<t.size),m<j->e t[m]=false):
 Meets (Builtin.«tuple.index» ⟨[.ref l,x],[]⟩)
  (λH R s=>s.heap.get? l=some {cls:=.type "tuple",dict:=none,data:=.seq t n,slots:= #[]}/\R (.ok (.ret (.int j s.toks))) {s with toks:=s.toks+1}):=by
 intro J w A R s h
 obtain⟨C,g,d,tk,D⟩:=s;obtain⟨v,h⟩:=h
 unfold Builtin.«tuple.index»
 refine wpAny_bind (m:=selfAndSome "tuple.index" "index" 1 3 {pos:=[Value.ref l,x]}) (wpAny_pure ?_)
 dsimp only
 unfold Builtin.Tuple.tupleItemsOf
 refine wpAny_bind (wpAny_bind (wpAny_seqItems v rfl (wpAny_pure ?_)))
 refine wpAny_bind (wpAny_pure ?_)
 refine wpAny_bind (wpAny_pure ?_)
 rw[Std.Legacy.Range.forIn_eq_forIn_range']
 refine wpAny_bind (wpAny_forIn_list _ (λr b p=>∃i,i<=j/\r=List.range' i (t.size-i)/\p=⟨C,g,d,tk,D⟩) _ ?_ ?_ _ _ ⟨0,Nat.zero_le _,?_,rfl⟩)
 ·rintro i r b p ⟨k,hk,c,rfl⟩
  have a:k<t.size:=by omega
  rw[show t.size-k=(t.size-(k+1))+1 from by omega,List.range'_succ] at c
  obtain⟨rfl,rfl⟩:=List.cons.inj c
  rw[Array.getElem?_eq_getElem a]
  dsimp only
  refine wpAny_bind (u t[i] (Array.getElem_mem a) J w _ _ _ _ ?_)
  by_cases q:i=j
  ·subst q
   rw[f]
   refine wpAny_bind (wpAny_bind (wpAny_mkInt (wpAny_pure (wpAny_pure ?_))))
   exact wpAny_pure h
  ·rw[o i a (by lia)]
   exact wpAny_pure ⟨i+1,by lia,rfl,rfl⟩
 ·rintro b p ⟨k,hk,c,rfl⟩
  have:0=t.size-k:=by simpa using congrArg List.length c
  lia
 ·simp
section
variable{J:Program}{w:World}{H:Heap}{F:List Env}{L:Addr}{X:List Addr}{G I:Hp}{z:List (Str×V)}{h:Heap}
variable{A:Around}{E:Value->Shared->Prop}{s:Shared}{Z:Env}{Y:En}{T:Tb}{K:Frag}
theorem Sg.grow(S:Sg J w H F L X G z h){a:Addr}{o:O}{ob:Obj}{h':Heap}(s:∀b o,h.get? b=some o->h'.get? b=some o)(A:h.get? a=none)(K:h'.get? a=some ob)(r:OR J w (X++[a]) o ob):
 Sg J w H F L (X++[a]) (G.push (o)) z h'/\Step X [] h (X++[a]) h':=by
 have p:X<+:X++[a]:=List.prefix_append ..
 have v:=S.live
 have C:∀b,(∃ob,h.get? b=some ob)->b≠a:=λb ⟨ob,e⟩ q=>by rw[q,A] at e;ext e
 have g:∃ob,h.get? L=some ob:=let⟨_,n,_⟩:=S.loc;let⟨o,q,_⟩:=eP n;⟨o,q⟩
 have f:∀b∈F.filterMap (·.frame),∃ob,h.get? b=some ob:=λb d=>let⟨_,o,e,_⟩:=S.ff.mem d;⟨o,e⟩
 refine⟨⟨λb o e=>s b o (S.keep b o e),?_,?_,by simp[S.len],?_,?_,S.eO,?_,S.above,?_,gh S.ff λb P o e n=>⟨o,s b o e,n⟩,?_⟩,⟨p,?_,(λP h=>nomatch h),λb o P Q e=>s b o e⟩⟩
 ·intro b d
  rcases List.mem_append.mp d with k|k
  ·exact S.off b k
  ·rw[List.mem_singleton.mp k]
   cases e:H.get? a with
   |none=>rfl
   |some o=>have:=S.keep a o e;rw[A] at this;ext this
 ·refine List.nodup_append.mpr ⟨S.nd,by simp,λb d c M=>?_⟩
  rw[List.mem_singleton.mp M];exact C b (v b d)
 ·intro b d
  rcases List.mem_append.mp d with k|k
  ·obtain⟨D,e⟩:=v b k;exact⟨D,s _ _ e⟩
  ·rw[List.mem_singleton.mp k];exact⟨ob,K⟩
 ·intro i D b j t
  rw[Hp.hJ] at j
  by_cases y:i=G.length
  ·rw[if_pos y] at j
   rw[y,←S.len] at t
   simp at t
   ext j
   subst t
   exact⟨ob,K,r⟩
  ·rw[if_neg y] at j
   rw[List.getElem?_append_left (S.len▸Hp.cj j)] at t
   obtain⟨E,k,N⟩:=S.cell i D b j t
   exact⟨E,s _ _ k,N.pre p⟩
 ·intro u
  rcases List.mem_append.mp u with k|k
  ·exact S.b6 k
  ·exact C L g (List.mem_singleton.mp k)
 ·obtain⟨m,n,l⟩:=S.loc
  exact⟨m,n.keeps s,λx=>(l x).pre p⟩
 ·intro b d u
  rcases List.mem_append.mp u with k|k
  ·exact S.dN b d k
  ·exact C b (f b d) (List.mem_singleton.mp k)
 ·intro b d
  rcases List.mem_append.mp d with k|k
  ·exact .inl k
  ·exact .inr (by rw[List.mem_singleton.mp k];exact A)
theorem jf(h:Heap):h.get? h.objs.size=none:=by
 cases e:h.get? h.objs.size with
 |none=>rfl
 |some o=>exact absurd (Heap.lt_size e) (Nat.lt_irrefl _)
theorem yj{i:Nat}{xs:List V}{x:Value}{Q:Value->Shared->Prop}(S:Sg J w H F L X G z s.heap)(d:G.get i=some (.list xs))(j:xs.length<=4096)(e:VR X (.ref i) x)(h:cN J w H F L X z s (.int (.ofNat xs.length)) G Q):wpAny (model J w) A (call (.builtin "len") [x]) Q E s:=by
 obtain⟨a,c,rfl⟩:=e
 obtain⟨g,ys,n,b,f,r⟩:=S.list d
 rw[c] at b;ext b
 have l:xs.length=ys.size:=by simpa using r.length
 exact call_len_list f.isList (by lia) (h.now S ⟨_,by rw[l];rfl⟩ _)
theorem yk{i:Nat}{xs:List V}{x:Value}{Q:Value->Shared->Prop}(S:Sg J w H F L X G z s.heap)(d:G.get i=some (.tup xs))(j:xs.length<=4096)(e:VR X (.ref i) x)(h:cN J w H F L X z s (.int (.ofNat xs.length)) G Q):wpAny (model J w) A (call (.builtin "len") [x]) Q E s:=by
 obtain⟨a,c,rfl⟩:=e
 obtain⟨g,ys,n,b,f,r⟩:=S.tup d
 rw[c] at b;ext b
 have l:xs.length=ys.size:=by simpa using r.length
 exact PySem.P.len_tuple f (by lia) (h.now S ⟨_,by rw[l];rfl⟩ _)
theorem yl{i:Nat}{xs:List (V×V)}{x:Value}{Q:Value->Shared->Prop}(k:Gd J w T K H)(S:Sg J w H F L X G z s.heap)(d:G.get i=some (.dict xs))(j:xs.length<=4096)(e:VR X (.ref i) x)(h:cN J w H F L X z s (.int (.ofNat xs.length)) G Q):wpAny (model J w) A (call (.builtin "len") [x]) Q E s:=by
 obtain⟨a,c,rfl⟩:=e
 obtain⟨g,ys,b,f,r⟩:=S.dict d
 rw[c] at b;ext b
 have l:=r.length
 exact call_len_dict (S.mK k.sys c) f (by lia) (h.now S ⟨_,by rw[l];rfl⟩ _)
theorem ym{n:Int}{x:Value}{Q:Value->Shared->Prop}(S:Sg J w H F L X G z s.heap)(a:VR X (.int n) x)(h:cN J w H F L X z s (.int (.ofNat n.natAbs)) G Q):wpAny (model J w) A (call (.builtin "abs") [x]) Q E s:=by
 obtain⟨t,rfl⟩:=a
 refine call_abs_int λu tk=>?_
 exact h.now S ⟨u,by congr 1;split<;>simp only[Int.ofNat_eq_natCast]<;>first|exact(Int.ofNat_natAbs_of_nonpos (by lia)).symm|exact(Int.natAbs_of_nonneg (by lia)).symm⟩ _
theorem yn{i:Nat}{xs:List V}{x:Value}{Q:Value->Shared->Prop}(S:Sg J w H F L X G z s.heap)(f:G.get i=some (.list xs))(p:xs.length<=4096)(g:VR X (.ref i) x)(h:cN J w H F L X z s (.ref G.length) (G.push (.list xs)) Q):wpAny (model J w) A (call (.type "list") [x]) Q E s:=by
 obtain⟨a,e,rfl⟩:=g
 obtain⟨j,ys,n,b,l,r⟩:=S.list f
 rw[e] at b;ext b
 have t:xs.length=ys.size:=by simpa using r.length
 refine call_list_seq (hsz:=by unfold sizeLine;omega) a (.inl rfl) l rfl rfl λm d k D=>?_
 obtain⟨c,P⟩:=S.grow (o:=.list xs) k (jf _) D ⟨ys,d,rfl,r.mono λu v q=>q.pre (List.prefix_append ..)⟩
 exact h _ _ s.toks _ P c (lh _ _ _ S.len)
theorem yo{i:Nat}{d:List (V×V)}{x:Value}{Q:Value->Shared->Prop}(M:Gd J w T K H)(S:Sg J w H F L X G z s.heap)(l:G.get i=some (.dict d))(C:d.length<=4096)(p:VR X (.ref i) x)
 (h:cN J w H F L X z s (.ref G.length) (G.push (.dict d)) Q):wpAny (model J w) A (call (.type "dict") [x]) Q E s:=by
 obtain⟨a,f,rfl⟩:=p
 obtain⟨u,v,c,j,r⟩:=S.dict l
 rw[f] at c;ext c
 refine kt_call_dict (S.mK M.sys f) j (by rw[←r.length];unfold sizeLine;omega) λy k n=>?_
 obtain⟨D,m,t⟩:=OR.dict (X:=X++[s.heap.objs.size]) k (r.mono λN O q=>⟨q.1,q.2.pre (List.prefix_append ..)⟩)
 obtain⟨g,P⟩:=S.grow (o:=.dict d) (λb o e=>(n.2 b (Nat.ne_of_lt (Heap.lt_size e))).trans (Heap.get?_push_of_some _ e)) (jf _) m t
 exact h _ _ s.toks _ P g (lh _ _ _ S.len)
noncomputable def hR:Nat->Value
 |1=>.type "NoneType"
 |2=>.type "bool"
 |3=>.type "int"
 |4=>.type "str"
 |5=>.type "list"
 |6=>.type "tuple"
 |7=>.type "dict"
 |n=>.ref n
theorem pH{n:Nat}(h:8<=n):hR n=.ref n:=by
 obtain⟨m,rfl⟩:∃m,n=m+8:=⟨n-8,by omega⟩
 rfl
structure lj(K:Frag)(D:Nat):Prop where
 get:plainGet K D "__class__" =true
 dict:hasDictIn K D=true
 cls:findIn K (.ref D) "__class__" =some (some (.builtin "object.__class__"))
 special:specialIn K (.builtin "object.__class__") "__get__" =some (some (.builtin "getset_descriptor.__get__"))
 takes:takesIn K (.builtin "object.__class__")=some true
 obj:mroIn K D (.type "object")=some true
structure iG(K:Frag)(T:Tb):Prop where
 one:∀t d b,d<4096->T.eM.get (t*4096+d)=some b->kitOne K (hR t) (hR d)=some b
 own:∀t d b,8<=t->d<4096->T.eM.get (t*4096+d)=some b->lj K t
theorem yq{h g:Heap}{x C:Addr}{f:Obj}{e:Option Obj}(i:InstAt h x f C e)(k:∀b o,h.get? b=some o->g.get? b=some o):InstAt g x f C e:=by
 obtain⟨a,b,c,d⟩:=i
 refine⟨k _ _ a,b,c,?_⟩
 revert d
 cases f.dict<;>cases e<;>first|exact id|(intro d;exact k _ _ d)
theorem yr{c:V}{d:Nat}{y:Value}(e:jE c=some d)(h:VR X c y):y=hR d/\d<4096:=by
 cases c<;>first|exact Mi.nos e|skip
 ·rename_i n
  match n with
  |0|2|3|4=>obtain rfl:=Option.some.inj e;exact⟨h,by decide⟩
  |1=>exact Mi.nos e
  |n+5=>exact Mi.nos e
 ·dsimp only[jE] at e
  split at e
  ·rename_i hd
   obtain rfl:=Option.some.inj e
   clear e
   obtain⟨a,b⟩:=Bool.and_eq_true_iff.mp hd
   rw[pH (Nat.le_of_ble_eq_true a)]
   exact⟨h,Nat.lt_succ_of_le (Nat.le_of_ble_eq_true b)⟩
  ·exact Mi.nos e
theorem kx{v:V}{t:Nat}{x:Value}(W:Gd J w T K H)(S:Sg J w H F L X G z h)(e:e_ G v=some t)(f:VR X v x)(c:8<=t->lj K t):
 (∃P:Heap->Prop,KitX K x (hR t) P/\P h)/\x≠.builtin "__main__.__loader__#opaque" :=by
 cases v<;>first|exact Mi.nos e|skip
 case none=>ext e;ext f;exact⟨⟨_,kitx_none,trivial⟩,nofun⟩
 case bool=>ext e;ext f;exact⟨⟨_,kitx_bool,trivial⟩,nofun⟩
 case int=>ext e;obtain⟨u,rfl⟩:=f;exact⟨⟨_,kitx_int,trivial⟩,nofun⟩
 case str=>ext e;obtain⟨u,rfl⟩:=f;exact⟨⟨_,kitx_str,trivial⟩,nofun⟩
 case old=>
  ext f
  have q:8<=t:=by
   clear c
   have e:fL _=some t:=e
   unfold fL at e
   cases M:Nat.beq _ 374<;>rw[M] at e
   ·cases N:Nat.beq _ 377<;>rw[N] at e
    ·cases Q:Nat.beq _ 380<;>rw[Q] at e
     ·ext e
     ·ext e;decide
    ·ext e;decide
   ·ext e;decide
  obtain⟨D,E,aa⟩:=W.xy _ _ e
  have O:=c q
  clear c
  rw[pH q]
  exact⟨⟨_,kitx_own O.get O.dict O.cls O.special O.takes O.obj,yq aa S.keep⟩,nofun⟩
 case ref i=>
  obtain⟨a,s,rfl⟩:=f
  obtain⟨o,y,e⟩:=Option.bind_eq_some_iff.mp (show(G.get i).bind kF=some t from e)
  refine⟨?_,nofun⟩
  obtain⟨R,D,g,b⟩:=S.get y
  rw[s] at g;ext g
  cases o<;>first|exact Mi.nos e|skip
  case inst C d=>
   have e:(if Nat.ble 8 C then some C else .none)=some t:=e
   split at e
   ·rename_i j
    ext e
    have j:=Nat.ble_eq.mp j
    have O:=c j
    clear c
    rw[pH j]
    obtain⟨b,k,A,r,l,p⟩:=b
    obtain⟨E,m⟩:=S.live r (List.mem_of_getElem? l)
    exact⟨_,kitx_own O.get O.dict O.cls O.special O.takes O.obj,⟨b,k,by unfold notCls;rw[A],by rw[p];exact m⟩⟩
   ·ext e
  case list=>
   ext e
   obtain⟨b,ys,n,rfl,_⟩:=b
   exact⟨_,kitx_list,_,b,rfl⟩
  case tup=>
   ext e
   obtain⟨b,ys,n,rfl,_⟩:=b
   exact⟨_,kitx_tuple,_,b,rfl⟩
  case dict=>
   ext e
   obtain⟨b,⟨k,_⟩,_⟩:=b
   exact⟨_,kitx_dict,_,b,k⟩
theorem pI{v c:V}{b:Bool}{y:Value}(i:iG K T)(e:ey T G v c=some b)(g:VR X c y):∃t,e_ G v=some t/\(8<=t->lj K t)/\kitOne K (hR t) y=some b:=by
 unfold ey at e
 split at e
 ·rename_i t f
  split at e
  ·rename_i d hd
   obtain⟨rfl,h⟩:=yr hd g
   exact⟨t,f,λa=>i.own t d b a h e,i.one t d b h e⟩
  ·ext e
 ·ext e
theorem yt{v:V}{t:Nat}(d:e_ G v=some t)(j:iG K T){cs:List V}{b:Bool}{ys:List Value}(e:isAny T G v cs=some b)(r:All2 (VR X) cs ys):kitAny K (hR t) ys=some b:=by
 induction r with
 |nil=>exact e
 |cons c f i=>
  unfold isAny at e
  unfold kitAny
  cases q:ey T G v _ with
  |none=>rw[q] at e;exact Mi.nos e
  |some a=>
   obtain⟨g,h,l,k⟩:=pI j q c
   obtain rfl:=Option.some.inj (d.symm.trans h)
   clear h
   rw[q] at e
   clear q
   rw[k]
   cases a with
   |false=>exact i e
   |true=>exact e
theorem yu{v:V}{t:Nat}(c:e_ G v=some t)(i:iG K T){cs:List V}{b:Bool}{ys:List Value}(n:cs≠[])(e:isAny T G v cs=some b)(r:All2 (VR X) cs ys):8<=t->lj K t:=by
 cases r with
 |nil=>exact absurd rfl n
 |cons a f=>
  unfold isAny at e
  cases q:ey T G v _ with
  |none=>rw[q] at e;ext e
  |some d=>
   obtain⟨g,h,o,k⟩:=pI i q a
   clear k
   rw[c] at h;ext h
   exact o
theorem yw{v c:V}{b:Bool}{x y:Value}{Q:Value->Shared->Prop}(aa:iG K T)(W:Gd J w T K H)(S:Sg J w H F L X G z s.heap)(e:fh T G v c=some b)(u:VR X v x)(C:VR X c y)
 (h:∀tk,Q (.bool b) {s with toks:=tk}):wpAny (model J w) A (call (.builtin "isinstance") [x,y]) Q E s:=by
 unfold fh at e
 split at e
 ·rename_i i
  split at e
  ·rename_i cs hi
   split at e
   ·ext e
   ·rename_i f
    obtain⟨a,ys,n,M,O,r⟩:=S.tup hi
    clear hi
    obtain⟨R,d,rfl⟩:=C
    rw[M] at d;ext d
    have f:cs≠[]:=by simpa using f
    obtain⟨t,g⟩:∃t,e_ G v=some t:=by
     clear r
     cases q:e_ G v with
     |some t=>exact⟨t,rfl⟩
     |none=>
      cases cs with
      |nil=>exact absurd rfl f
      |cons m D=>
       unfold isAny ey at e
       rw[q] at e
       clear q
       ext e
    obtain⟨⟨P,ab,p⟩,j⟩:=kx W S g u (yu g aa f e r)
    clear f
    have o:s.heap.get? a=some ⟨.type "tuple",none,.seq ys.toList.toArray n, #[]⟩:=by rw[Array.toArray_toList];exact O
    exact kia_tup ab (W.k.keeps S.keep) p o (yt g aa e r) j h
  ·ext e
 ·obtain⟨t,g,l,N⟩:=pI aa e C
  clear e
  obtain⟨⟨P,ab,p⟩,j⟩:=kx W S g u l
  exact kia_one ab (W.k.keeps S.keep) p N j h
end
end Sd
namespace Sd
open PySem PySem.W PyProof.Rows PySem.Calls Mi
noncomputable abbrev b7(F:List Env):List Addr:=F.filterMap (·.frame)
structure bV(F:List Env)(L:Addr)(X:List Addr)(h:Heap)(ρ':List Addr)(h':Heap):Prop where
 pre:X<+:ρ'
 new:∀a∈ρ',a∈X\/h.get? a=none
 keep:∀b o,b∉X->b≠L->b∉b7 F->h.get? b=some o->h'.get? b=some o
 gk:∀b o,b∉X->b≠L->b∈b7 F->h.get? b=some o->∃sl,h'.get? b=some {o with slots:=sl}
theorem bV.refl{F:List Env}{L:Addr}{X:List Addr}{h:Heap}:bV F L X h X h:=⟨List.prefix_refl _,λa b=>.inl b,λc d f g i e=>e,λc o d f g e=>⟨o.slots,e⟩⟩
theorem bV.old{F:List Env}{L:Addr}{X a:List Addr}{h h':Heap}(x:bV F L X h a h'){b:Addr}{o:Obj}(n:b∉X)(e:h.get? b=some o):b∉a:=λc=>by
 rcases x.new b c with k|k
 ·exact n k
 ·rw[k] at e;ext e
theorem bV.trans{F:List Env}{L:Addr}{X S c:List Addr}{h C d:Heap}(x:bV F L X h S C)(y:bV F L S C c d)(m:L∉c):bV F L X h c d:=by
 refine⟨x.pre.trans y.pre,λa j=>?_,λb o f g i e=>y.keep b o (x.old f e) g i (x.keep b o f g i e),λb o f g i e=>?_⟩
 ·rcases y.new a j with k|k
  ·exact x.new a k
  ·by_cases q:a∈X
   ·exact .inl q
   ·refine .inr ?_
    cases e:h.get? a with
    |none=>rfl
    |some o=>
     have n:a≠L:=λz=>m (z▸j)
     by_cases l:a∈b7 F
     ·obtain⟨p,z⟩:=x.gk a o q n l e
      rw[k] at z;ext z
     ·have:=x.keep a o q n l e
      rw[k] at this;ext this
 ·obtain⟨p,z⟩:=x.gk b o f g i e
  obtain⟨s,r⟩:=y.gk b _ (x.old f e) g i z
  exact⟨s,r⟩
theorem Step.toF{F:List Env}{L:Addr}{X c i:List Addr}{h h':Heap}(x:Step X i h c h')(g:∀a∈i,a=L):bV F L X h c h':=
 ⟨x.pre,x.new,λb o d f j e=>x.keep b o d (λq=>f (g b q)) e,λb o d f j e=>⟨o.slots,x.keep b o d (λq=>f (g b q)) e⟩⟩
theorem Step.iH{F:List Env}{L:Addr}{X a:List Addr}{h h':Heap}(x:Step X [] h a h'):bV F L X h a h':=x.toF λb q=>nomatch q
noncomputable def fS(D:Value)(B:Heap)(F:List Env)(e:Addr)(h:Heap):Prop:=
 B.StaysIn h/\B.get? e=none/\h.FunFrames B F/\∃a,(∃b v,h.get? e=some b/\b.cls=D/\b.data=.fields v/\v[0]? =some a/\v[1]? =some .none)\/h.TracedW B e D a\/
  ∃Z L o,F=Z::o/\Z.frame=some L/\h.TracedAtW B e D a (rawInt L)
section
variable(J:Program)(w:World)(H:Heap)(F:List Env)(L:Addr)(X:List Addr)(W:List (Str×V))(s:Shared)
structure cW(D:Value)(I:Hp)(loc':List (Str×V))(ρ':List Addr)(h':Heap)(e:Addr):Prop where
 base:∃B,H.StaysIn B/\fS D B F e h'/\(∀(i:Nat) (o:O) (a:Addr),I.get i=some o->ρ'[i]? =some a->∃ob,B.get? a=some ob/\OR J w ρ' o ob)/\(∀a∈ρ',∃ob,B.get? a=some ob)/\
  ∀b o,b∉X->b≠L->b∉b7 F->s.heap.get? b=some o->B.get? b=some o
 gk:∀b o,b∉X->b≠L->b∈b7 F->s.heap.get? b=some o->∃sl,h'.get? b=some {o with slots:=sl}
 pre:X<+:ρ'
 new:∀a∈ρ',a∈X\/s.heap.get? a=none
 off:∀a∈ρ',H.get? a=none
 nd:ρ'.Nodup
 len:ρ'.length=I.length
 b6:L∉ρ'
 loc:∃m,h'.Ns L m/\LR ρ' loc' m
 dN:∀a∈b7 F,a∉ρ'
noncomputable def Norm(I:Hp)(loc':List (Str×V)){b:Type}(P:List Addr->b->Prop)(Q:b->Shared->Prop):Prop:=
 ∀a h' tk y,bV F L X s.heap a h'->Sg J w H F L a I loc' h'->P a y->Q y {s with heap:=h',toks:=tk}
noncomputable def Exc(D:Value)(I:Hp)(loc':List (Str×V))(E:Value->Shared->Prop):Prop:=
 ∀a h' tk e,cW J w H F L X s D I loc' a h' e->E (.ref e) {s with heap:=h',toks:=tk}
noncomputable def K1(D:Value){b c:Type}(P:List Addr->b->c->Prop)(r:R b)(Q:c->Shared->Prop)(E:Value->Shared->Prop):Prop:=match r with
 |.ok v I=>Norm J w H F L X s I W (λa y=>P a v y) Q
 |.exc I=>Exc J w H F L X s D I W E
noncomputable def FR(X:List Addr):Fl->Flow->Prop
 |.next,f=>f=.next
 |.brk,f=>f=.brk
 |.cont,f=>f=.cont
 |.ret v,f=>∃y,f=.ret y/\VR X v y
noncomputable def K2(D:Value)(r:RS)(Q:Flow->Shared->Prop)(E:Value->Shared->Prop):Prop:=match r with
 |.ok f loc' I=>Norm J w H F L X s I loc' (λa y=>FR a f y) Q
 |.exc loc' I=>Exc J w H F L X s D I loc' E
end
section
variable{J:Program}{w:World}{H:Heap}{F:List Env}{L:Addr}{X S:List Addr}{W loc':List (Str×V)}{s:Shared}{C:Heap}{t₁:Nat}{D:Value}{G I:Hp}
theorem cW.move(x:bV F L X s.heap S C){f:List Addr}{h':Heap}{e:Addr}(y:cW J w H F L S {s with heap:=C,toks:=t₁} D I loc' f h' e):cW J w H F L X s D I loc' f h' e:=by
 obtain⟨⟨B,p,r,t,u,v⟩,E,K,M,N,O,P,m,Q,g⟩:=y
 refine⟨⟨B,p,r,t,u,λb o h c d e=>v b o (x.old h e) c d (x.keep b o h c d e)⟩,λb o h c d e=>?_,x.pre.trans K,λa i=>?_,N,O,P,m,Q,g⟩
 ·obtain⟨A,z⟩:=x.gk b o h c d e
  obtain⟨l,R⟩:=E b _ (x.old h e) c d z
  exact⟨l,R⟩
 ·rcases M a i with k|k
  ·exact x.new a k
  ·by_cases q:a∈X
   ·exact .inl q
   ·refine .inr ?_
    cases e:s.heap.get? a with
    |none=>rfl
    |some o=>
     have n:a≠L:=λz=>m (z▸i)
     by_cases j:a∈b7 F
     ·obtain⟨A,z⟩:=x.gk a o q n j e
      rw[show C.get? a=none from k] at z;ext z
     ·have:=x.keep a o q n j e
      rw[show C.get? a=none from k] at this;ext this
theorem Norm.move(x:bV F L X s.heap S C){b:Type}{P:List Addr->b->Prop}{Q:b->Shared->Prop}(k:Norm J w H F L X s I loc' P Q):Norm J w H F L S {s with heap:=C,toks:=t₁} I loc' P Q:=
 λa h' tk y t c p=>k a h' tk y (x.trans t c.b6) c p
theorem Exc.move(x:bV F L X s.heap S C){E:Value->Shared->Prop}(k:Exc J w H F L X s D I loc' E):Exc J w H F L S {s with heap:=C,toks:=t₁} D I loc' E:=
 λa h' tk e y=>k a h' tk e (y.move x)
theorem K1.move(x:bV F L X s.heap S C){a b:Type}{P:List Addr->a->b->Prop}{r:R a}{Q:b->Shared->Prop}{E:Value->Shared->Prop}(k:K1 J w H F L X W s D P r Q E):
 K1 J w H F L S W {s with heap:=C,toks:=t₁} D P r Q E:=by
 cases r with
 |ok v I=>exact Norm.move x k
 |exc I=>exact Exc.move x k
theorem K2.move(x:bV F L X s.heap S C){r:RS}{Q:Flow->Shared->Prop}{E:Value->Shared->Prop}(k:K2 J w H F L X s D r Q E):
 K2 J w H F L S {s with heap:=C,toks:=t₁} D r Q E:=by
 cases r with
 |ok v loc' I=>exact Norm.move x k
 |exc loc' I=>exact Exc.move x k
theorem Norm.now{a:Type}{P:List Addr->a->Prop}{Q:a->Shared->Prop}(k:Norm J w H F L X s G W P Q)(b:Sg J w H F L X G W s.heap){y:a}(p:P X y)(tk:Nat):Q y {s with toks:=tk}:=k X s.heap tk y .refl b p
theorem Norm.yx{v:V}{Q:Value->Shared->Prop}(k:Norm J w H F L X s I W (λa y=>VR a v y) Q):cN J w H F L X W s v I Q:=
 λa h' tk y t b r=>k a h' tk y t.iH b r
theorem cW.sg(P:Sg J w H F L X G W s.heap){c:List Addr}{h':Heap}{e:Addr}(y:cW J w H F L X s D I loc' c h' e):Sg J w H F L c I loc' h':=by
 obtain⟨⟨B,g,⟨d,E,k,K⟩,h,j,A⟩,M,N,O,p,r,t,u,v,f⟩:=y
 exact⟨λb o q=>d b o (g b o q),p,r,t,λa l=>(let⟨ob,q⟩:=j a l;⟨ob,d _ _ q⟩),λi o a m n=>(let⟨ob,z,x⟩:=h i o a m n;⟨ob,d _ _ z,x⟩),P.eO,u,P.above,v,funFrames_base g k,f⟩
theorem cW.step{a:List Addr}{h':Heap}{e:Addr}(y:cW J w H F L X s D I loc' a h' e):bV F L X s.heap a h':=by
 obtain⟨⟨B,m,⟨d,r,t,u⟩,n,p,c⟩,j,k,l,v,x,z,A,E,i⟩:=y
 exact⟨k,l,λb o h f g q=>d _ _ (c b o h f g q),j⟩
end
noncomputable def SI(e:Expr):Sh->Prop
 |.const c=>∃k p,e=.Constant c k p
 |.name x=>∃p,e=.Name x p/\cQ x=true
 |.bool d B=>∃p,e=.BoolOp d B p
 |.bin l d r=>∃p,e=.BinOp l d r p
 |.not x=>∃p,e=.UnaryOp .Not x p
 |.neg k=>∃n p q,e=.UnaryOp .USub (.Constant (.int k) n p) q
 |.fO t b o=>∃p,e=.IfExp t b o p
 |.iy=>∃p,e=.Dict [] [] p
 |.list h=>∃p,e=.List h p/\h.all notStar=true
 |.tup h=>∃k p,e=.Tuple h k p/\h.all notStar=true
 |.cmp l d r=>∃p,e=.Compare l [d] [r] p/\cZ r=true
 |.i7 l d r v z=>∃p,e=.Compare l [d,v] [r,z] p/\cZ r=true/\cZ z=true
 |.attr o a=>∃p,e=.Attribute o a p/\fo o=true
 |.from o k=>∃n p q r,e=.Subscript o (.Slice (some (.Constant (.int k) n p)) .none .none q) r
 |.jG o k=>∃n p q r,e=.Subscript o (.Slice .none (some (.Constant (.int k) n p)) .none q) r
 |.rev o=>∃n p q r t,e=.Subscript o (.Slice .none .none (some (.UnaryOp .USub (.Constant (.int 1) n p) t)) q) r
 |.sub o i=>∃p,e=.Subscript o i p/\∀l u s q,i≠.Slice l u s q
 |.fm o a g=>∃w p,e=.Call (.Attribute o a w) g [] p/\ee g=true/\fo o=true/\Nat.beq w.endLine p.line=true
 |.call f g=>∃p,e=.Call f g [] p/\ee g=true/\∀o a q,f≠.Attribute o a q
 |.lc j x y m A=>∃p q,e=.ListComp j [⟨.Name x p,y,m,0⟩] A q/\cZ y=true
 |.no=>True
noncomputable def yz:Expr->Bool
 |.Slice ..=>false
 |_=>true
noncomputable def yA:Expr->Bool
 |.Attribute ..=>false
 |_=>true
theorem SI.ite{e:Expr}{c:Bool}{s:Sh}(h:c=true->SI e s):SI e (if c then s else .no):=by
 split
 ·exact h (by assumption)
 ·trivial
theorem yB(o i:Expr)(p:Pos)(h:yz i=true):SI (.Subscript o i p) (.sub o i):=⟨_,rfl,λl u s q z=>by rw[z] at h;cases h⟩
theorem yC(f:Expr)(b:List Expr)(p:Pos)(h:yA f=true):SI (.Call f b [] p) (if ee b then .call f b else .no):=SI.ite (c:=ee b) (s:=.call f b) λd=>⟨_,rfl,d,λo a q z=>by rw[z] at h;cases h⟩
theorem mP(e:Expr):SI e (shape e):=by
 cases e with
 |Constant c k p=>exact⟨_,_,rfl⟩
 |Name x p=>
  exact SI.ite (c:=cQ x) (s:=.name x) λh=>⟨_,rfl,h⟩
 |BoolOp m M p=>exact⟨_,rfl⟩
 |BinOp l m r p=>exact⟨_,rfl⟩
 |UnaryOp m x p=>
  cases m with
  |Not=>exact⟨_,rfl⟩
  |USub=>
   cases x with
   |Constant c k p=>
    cases c with
    |int k=>exact⟨_,_,_,rfl⟩
    |_=>trivial
   |_=>trivial
  |_=>trivial
 |IfExp t b o p=>exact⟨_,rfl⟩
 |Dict B M p=>
  cases B with
  |nil=>
   cases M with
   |nil=>exact⟨_,rfl⟩
   |cons=>trivial
  |cons=>trivial
 |List y p=>
  exact SI.ite (c:=y.all notStar) (s:=.list y) λh=>⟨_,rfl,h⟩
 |Tuple y k p=>
  exact SI.ite (c:=y.all notStar) (s:=.tup y) λh=>⟨_,_,rfl,h⟩
 |Compare l d j p=>
  cases d with
  |nil=>trivial
  |cons m d=>
   cases d with
   |nil=>
    cases j with
    |nil=>trivial
    |cons r j=>
     cases j with
     |nil=>
      exact SI.ite (c:=cZ r) (s:=.cmp l m r) λh=>⟨_,rfl,h⟩
     |cons=>trivial
   |cons E d=>
    cases d with
    |cons=>cases j with
     |nil=>trivial
     |cons r j=>cases j<;>trivial
    |nil=>
     cases j with
     |nil=>trivial
     |cons r j=>
      cases j with
      |nil=>trivial
      |cons L j=>
       cases j with
       |nil=>
        show SI _ (if cZ r&&cZ L then .i7 l m r E L else .no)
        split
        ·exact⟨_,rfl,Bool.and_eq_true_iff.mp (by assumption)⟩
        ·trivial
       |cons=>trivial
 |Attribute o a p=>
  exact SI.ite (c:=fo o) (s:=.attr o a) λh=>⟨_,rfl,h⟩
 |Subscript o i p=>
  cases i with
  |Slice l u s q=>
   cases l with
   |some l=>
    cases l with
    |Constant c k p=>
     cases c with
     |int k=>cases u with
      |none=>cases s with
       |none=>exact⟨_,_,_,_,rfl⟩
       |some=>trivial
      |some=>trivial
     |_=>trivial
    |_=>trivial
   |none=>
    cases u with
    |some u=>
     cases u with
     |Constant c k p=>
      cases c with
      |int k=>cases s with
       |none=>exact⟨_,_,_,_,rfl⟩
       |some=>trivial
      |_=>trivial
     |_=>trivial
    |none=>
     cases s with
     |none=>trivial
     |some s=>
      cases s with
      |UnaryOp m x P=>
       cases m with
       |USub=>
        cases x with
        |Constant c k O=>
         cases c with
         |int k=>
          cases k with
          |negSucc n=>trivial
          |ofNat n=>
           cases n with
           |zero=>trivial
           |succ n=>cases n with
            |zero=>exact⟨_,_,_,_,_,rfl⟩
            |succ n=>trivial
         |_=>trivial
        |_=>trivial
       |_=>trivial
      |_=>trivial
  |_=>exact yB _ _ _ rfl
 |Call f H B F=>
  cases B with
  |cons=>trivial
  |nil=>
   cases f with
   |Attribute o a w=>
    show SI _ (if ee H then(if fo o&&Nat.beq w.endLine F.line then .fm o a H else .no) else .no)
    split
    ·split
     ·exact⟨_,_,rfl,by assumption,Bool.and_eq_true_iff.mp (by assumption)⟩
     ·trivial
    ·trivial
   |_=>exact yC _ _ _ rfl
 |ListComp z v N p=>
  cases v with
  |nil=>trivial
  |cons g v=>
   obtain⟨t,K,A,a⟩:=g
   cases t with
   |Name x q=>
    cases a with
    |ofNat n=>
     cases n with
     |zero=>
      cases v with
      |cons=>trivial
      |nil=>
       exact SI.ite (c:=cZ K) (s:=.lc z x K A N) λh=>⟨_,_,rfl,h⟩
     |succ=>cases v<;>trivial
    |negSucc=>cases v<;>trivial
   |_=>cases v<;>trivial
 |_=>trivial
theorem yD{e:Expr}{x:Str}(h:shape e=.name x):∃p,e=.Name x p/\cQ x=true:=by
 have:=mP e;rw[h] at this;exact this
theorem yE{e f:Expr}{s:List Expr}(h:shape e=.call f s):∃p,e=.Call f s [] p/\ee s=true/\∀o a q,f≠.Attribute o a q:=by
 have:=mP e;rw[h] at this;exact this
noncomputable def Rm(A:Around)(F:List Env)(n:Nat):Prop:=A.frames=some F/\A.handled=none/\A.depth+n<990/\A.units+10*n<9400
theorem Rm.le{A:Around}{F:List Env}{n m:Nat}(h:Rm A F n)(k:m<=n):Rm A F m:=⟨h.1,h.2.1,by have:=h.2.2.1;lia,by have:=h.2.2.2;lia⟩
theorem Rm.units{A:Around}{F:List Env}{n:Nat}(h:Rm A F n):A.units<cLine:=Nat.lt_of_le_of_lt (Nat.le_add_right _ _) (Nat.lt_trans h.2.2.2 (by rw[cLine_is];decide))
section
variable(J:Program)(w:World)(T:Tb)(H:Heap)(D:Value)
noncomputable def cw(n:Nat)(f:En->Expr->Hp->Option (R V)):Prop:=
 ∀{A:Around} {F:List Env} {L:Addr} {X:List Addr} {Z:Env} {Y:En} {G:Hp} {s:Shared} {e:Expr} {r:R V} {Q:Value->Shared->Prop} {E:Value->Shared->Prop},
  Rm A F n->Sg J w H F L X G Y.loc s.heap->bG Z Y F L X->f Y e G=some r->K1 J w H F L X Y.loc s D (λX v y=>VR X v y) r Q E->wpAny (model J w) A (eval e Z) Q E s
noncomputable def hU(n:Nat)(f:En->Expr->Hp->Option (R V)):Prop:=
 ∀{A:Around} {F:List Env} {L:Addr} {X:List Addr} {Z:Env} {Y:En} {G:Hp} {s:Shared} {e:Expr} {r:R V} {Q:Bool->Shared->Prop} {E:Value->Shared->Prop},
  Rm A F n->Sg J w H F L X G Y.loc s.heap->bG Z Y F L X->f Y e G=some r->(∀v I,r=.ok v I->∃b,truth v=some b)->
  K1 J w H F L X Y.loc s D (λa v b=>truth v=some b) r Q E->wpAny (model J w) A (isTrue e Z (eval e Z)) Q E s
noncomputable def ez(n:Nat)(f:En->List Expr->Hp->Option (R (List V))):Prop:=
 ∀{A:Around} {F:List Env} {L:Addr} {X:List Addr} {Z:Env} {Y:En} {G:Hp} {s:Shared} {e:List Expr} {r:R (List V)} {p:Pos} {Q:List Value->Shared->Prop} {E:Value->Shared->Prop},
  Rm A F n->Sg J w H F L X G Y.loc s.heap->bG Z Y F L X->e.all notStar=true->f Y e G=some r->K1 J w H F L X Y.loc s D (λX v ys=>All2 (VR X) v ys) r Q E->
  wpAny (model J w) A (spliced (backTo p (starEach e Z))) Q E s
noncomputable def pJ(n:Nat)(f:En->BoolOp->List Expr->Hp->Option (R V)):Prop:=
 ∀{A:Around} {F:List Env} {L:Addr} {X:List Addr} {Z:Env} {Y:En} {G:Hp} {s:Shared} {o:BoolOp} {e:List Expr} {r:R V} {p:Pos} {Q:Value->Shared->Prop} {E:Value->Shared->Prop},
  Rm A F n->Sg J w H F L X G Y.loc s.heap->bG Z Y F L X->f Y o e G=some r->K1 J w H F L X Y.loc s D (λX v y=>VR X v y) r Q E->wpAny (model J w) A (boolOp p o (evalEach e Z)) Q E s
noncomputable def pK(n:Nat)(f:En->BoolOp->List Expr->Hp->Option (R V)):Prop:=
 ∀{A:Around} {F:List Env} {L:Addr} {X:List Addr} {Z:Env} {Y:En} {G:Hp} {s:Shared} {o:BoolOp} {e:List Expr} {r:R V} {Q:Bool->Shared->Prop} {E:Value->Shared->Prop},
  Rm A F n->Sg J w H F L X G Y.loc s.heap->bG Z Y F L X->f Y o e G=some r->K1 J w H F L X Y.loc s D (λa v b=>truth v=some b) r Q E->wpAny (model J w) A (allTrue o e Z) Q E s
end
theorem jg{b c:Type}{x:Option (R b)}{f:b->Hp->Option (R c)}{r:R c}(h:bd x f=some r):(∃a G,x=some (.ok a G)/\f a G=some r)\/∃G,x=some (.exc G)/\r=.exc G:=by
 cases x with
 |none=>exact nos h
 |some x=>cases x with
  |ok a G=>exact .inl ⟨_,_,rfl,h⟩
  |exc G=>exact .inr ⟨_,rfl,(Option.some.inj h).symm⟩
theorem eQ{a:Type}{b:Option Bool}{x y:Option a}{r:a}(h:bX b x y=some r):(b=some true/\x=some r)\/(b=some false/\y=some r):=by
 unfold bX at h
 split at h
 ·exact .inl ⟨rfl,h⟩
 ·exact .inr ⟨rfl,h⟩
 ·ext h
theorem jU{X:List Addr}{v:V}{b:Bool}{y:Value}(h:truth v=some b)(r:VR X v y):y=.bool b:=by
 cases v<;>first|exact Mi.nos h|(specialize h;exact r)
section
variable{J:Program}{w:World}{H:Heap}{F:List Env}{L:Addr}{X:List Addr}{G:Hp}{W:List (Str×V)}
variable{A:Around}{E:Value->Shared->Prop}{s:Shared}{Z:Env}{Y:En}{T:Tb}{K:Frag}{D:Value}{n:Nat}{Fn:Fs}
theorem cI{c g i o:Type}{m:Sem g}{P:List Addr->c->g->Prop}{j:List Addr->i->o->Prop}{x:Option (R c)}{f:c->Hp->Option (R i)}{r:R i}{Q:o->Shared->Prop}{d:g->Shared->Prop}
 (e:bd x f=some r)(k:K1 J w H F L X W s D j r Q E)
 (l:∀{n:R c},x=some n->K1 J w H F L X W s D P n d E->wpAny (model J w) A m d E s)
 (u:∀{a:c} {I:Hp} {b:List Addr} {h':Heap} {tk:Nat} {y:g},f a I=some r->bV F L X s.heap b h'->Sg J w H F L b I W h'->P b a y->K1 J w H F L b W {s with heap:=h',toks:=tk} D j r Q E->d y {s with heap:=h',toks:=tk}):
 wpAny (model J w) A m d E s:=by
 rcases jg e with⟨a,I,h,q⟩|⟨I,h,rfl⟩
 ·exact l h λb h' tk y t v p=>u q t v p (K1.move t k)
 ·exact l h k
theorem yF{p:Pos}{Q:List Value->Shared->Prop}(h:Q [] s):wpAny (model J w) A (spliced (backTo p (starEach [] Z))) Q E s:=wpAny_items_nil h
theorem iI{e:Expr}{r:List Expr}(h:notStar e=true):starEach (e::r) Z=(false,eval e Z)::starEach r Z:=by
 cases e<;>first|rfl|specialize h
theorem yG(K:cw J w H D n Fn.ev)(B:ez J w H D n Fn.bL):ez J w H D (n+1) (kT T Fn):=by
 intro A F L X Z Y G s z r V Q E R aa N c e k
 cases z with
 |nil=>
  ext e
  exact yF (Norm.now (P:=λa ys=>All2 (VR a) [] ys) k aa .nil s.toks)
 |cons x o=>
  simp only[List.all_cons,Bool.and_eq_true] at c
  refine wpAny_items_cons ?_ (iI c.1)
  refine cI (P:=λX v y=>VR X v y) e k (λd b=>K (R.le (by lia)) aa N d b) λ{v I S C tk y} m g S1 M b=>?_
  clear k e
  refine cI (P:=λX j ys=>All2 (VR X) j ys) m b (λd f=>B (s:={s with heap:=C,toks:=tk}) (R.le (by lia)) S1 (N.pre g.pre) c.2 d f) λ{j p l h t ys} u i q O f=>?_
  clear b m c
  ext u
  exact Norm.now (s:={s with heap:=h,toks:=t}) (P:=λa ys=>All2 (VR a) (v::j) ys) f q (.cons (M.pre i.pre) O) t
theorem pM{o:Expr}{a:Str}{Z:Env}{w:Sem Value}(h:fo o=true):attributeBase o a Z w=w:=by
 cases o<;>first|rfl|skip
 rename_i f as ks p
 cases f<;>first|rfl|skip
 cases as with
 |cons=>rfl
 |nil=>cases ks with
  |cons=>rfl
  |nil=>exact Mi.nft h
variable{r:R V}{Q:Value->Shared->Prop}
theorem map_some{b c:Type}{x:Option b}{f:b->c}{r:c}(h:x.map f=some r):∃a,x=some a/\r=f a:=by
 cases x<;>simp at h
 exact⟨_,rfl,h.symm⟩
theorem d9{v:V}{I:Hp}(k:K1 J w H F L X W s D (λX v y=>VR X v y) (.ok v I) Q E):cN J w H F L X W s v I Q:=Norm.yx k
theorem okN{v:V}{y:Value}(k:K1 J w H F L X W s D (λX v y=>VR X v y) (.ok v G) Q E)(a:Sg J w H F L X G W s.heap)(p:VR X v y)(tk:Nat):Q y {s with toks:=tk}:=cN.now (d9 k) a p tk
theorem yH{c:Const}{k:Nat}{p:Pos}(d:Sg J w H F L X G W s.heap)(e:(const c).map (λv=>R.ok v G)=some r)(a:K1 J w H F L X W s D (λX v y=>VR X v y) r Q E):wpAny (model J w) A (eval (.Constant c k p) Z) Q E s:=by
 obtain⟨v,b,rfl⟩:=map_some e
 clear e
 cases c<;>first|exact Mi.nos b|specialize b
 ·exact wpAny_Constant_none (okN a d rfl s.toks)
 ·exact wpAny_Constant_bool (okN a d rfl s.toks)
 ·exact wpAny_Constant_int (okN a d ⟨_,rfl⟩ _)
 ·exact wpAny_Constant_str (okN a d ⟨_,rfl⟩ _)
theorem hV{x:Str}(h:cQ x=true):(x==("__debug__":Str))=false:=by
 unfold cQ at h
 rw[pk] at h
 simpa using h
theorem yI{x:Str}{p:Pos}(b:Gd J w T K H)(c:Sg J w H F L X G Y.loc s.heap)(N:bG Z Y F L X)(h:cQ x=true)(e:(Mi.name T Y G x).map (λv=>R.ok v G)=some r)
 (k:K1 J w H F L X Y.loc s D (λX v y=>VR X v y) r Q E):wpAny (model J w) A (eval (.Name x p) Z) Q E s:=by
 obtain⟨v,a,rfl⟩:=map_some e
 clear e
 exact wpAny_Name (k_ b c N a λy q=>okN k c q s.toks) (hV h)
theorem yJ{l o:Expr}{z:Operator}{p:Pos}(ab:Gd J w T K H)(x:cw J w H D n Fn.ev)(R:Rm A F (n+1))(ae:Sg J w H F L X G Y.loc s.heap)(N:bG Z Y F L X)
 (e:(bd (Fn.ev Y l G) λa G=>bd (Fn.ev Y o G) λb G=>bin z G a b T.bO)=some r)(k:K1 J w H F L X Y.loc s D (λX v y=>VR X v y) r Q E):wpAny (model J w) A (eval (.BinOp l z o p) Z) Q E s:=by
 refine wpAny_BinOp ?_
 refine cI (P:=λX v y=>VR X v y) e k (λd c=>x (R.le (by lia)) ae N d c) λ{v I S C tk y} q g S1 O c=>?_
 clear e k
 refine cI (P:=λX v y=>VR X v y) q c (λd f=>x (s:={s with heap:=C,toks:=tk}) (R.le (by lia)) S1 (N.pre g.pre) d f) λ{v2 aa j h t y2} u i B V f=>?_
 clear c q
 cases r with
 |ok v3 m=>exact yc (s:={s with heap:=h,toks:=t}) ab B u (O.pre i.pre) V (d9 f)
 |exc m=>
  obtain⟨_,_,M⟩:=Option.map_eq_some_iff.mp u
  ext M
theorem yK{x:Expr}{p:Pos}(i:cw J w H D n Fn.ev)(c:Rm A F (n+1))(l:Sg J w H F L X G Y.loc s.heap)(N:bG Z Y F L X)
 (e:(bd (Fn.ev Y x G) λa G=>(truth a).map λb=>R.ok (.bool (!b)) G)=some r)(k:K1 J w H F L X Y.loc s D (λX v y=>VR X v y) r Q E):wpAny (model J w) A (eval (.UnaryOp .Not x p) Z) Q E s:=by
 refine wpAny_UnaryOp ?_
 refine cI (P:=λX v y=>VR X v y) e k (λg d=>i (c.le (by lia)) l N g d) λ{v I S C tk y} f t S1 j d=>?_
 clear e k
 obtain⟨b,h,rfl⟩:=map_some f
 clear f
 rw[jU h j]
 exact not_value (wpAny_truthy_bool (okN (s:={s with heap:=C,toks:=tk}) d S1 rfl tk))
theorem yL{i:Int}{m:Nat}{p q:Pos}(a:Sg J w H F L X G W s.heap)(e:kO (.int (-i)) G=some r)(k:K1 J w H F L X W s D (λX v y=>VR X v y) r Q E):
 wpAny (model J w) A (eval (.UnaryOp .USub (.Constant (.int i) m p) q) Z) Q E s:=by
 ext e
 exact wpAny_UnaryOp (wpAny_Constant_int (PyProof.Rows.neg_int (okN k a ⟨_,rfl⟩ _)))
theorem yM{p:Pos}(a:Sg J w H F L X G W s.heap)(k:K1 J w H F L X W s D (λX v y=>VR X v y) (.ok (.ref G.length) (G.push (.dict []))) Q E):wpAny (model J w) A (eval (.Dict [] [] p) Z) Q E s:=
 wpAny_Dict_empty (cN.iy (d9 k) a s.toks)
theorem yN{c:List Expr}{p:Pos}(i:ez J w H D n Fn.bL)(R:Rm A F (n+1))(l:Sg J w H F L X G Y.loc s.heap)(N:bG Z Y F L X)(t:c.all notStar=true)
 (e:(bd (Fn.bL Y c G) λa G=>if bS a.length then some (.ok (.ref G.length) (G.push (.list a))) else .none)=some r)(k:K1 J w H F L X Y.loc s D (λX v y=>VR X v y) r Q E):wpAny (model J w) A (eval (.List c p) Z) Q E s:=by
 refine wpAny_List ?_
 refine cI (P:=λX a ys=>All2 (VR X) a ys) e k (λg d=>i (R.le (by lia)) l N t g d) λ{a I S C tk ys} b j S1 f d=>?_
 clear e k
 split at b
 ·rename_i h
  ext b
  exact⟨by have:=d8.mp h;rw[←f.length];unfold sizeLine;omega,cN.list (s:={s with heap:=C,toks:=tk}) (d9 d) S1 f tk⟩
 ·ext b
theorem yO{c:List Expr}{m:Nat}{p:Pos}(i:ez J w H D n Fn.bL)(R:Rm A F (n+1))(l:Sg J w H F L X G Y.loc s.heap)(N:bG Z Y F L X)(t:c.all notStar=true)
 (e:(bd (Fn.bL Y c G) λa G=>if bS a.length&&!a.isEmpty then some (.ok (.ref G.length) (G.push (.tup a))) else .none)=some r)(k:K1 J w H F L X Y.loc s D (λX v y=>VR X v y) r Q E):wpAny (model J w) A (eval (.Tuple c m p) Z) Q E s:=by
 refine wpAny_Tuple ?_
 refine cI (P:=λX a ys=>All2 (VR X) a ys) e k (λg d=>i (R.le (by lia)) l N t g d) λ{a I S C tk ys} b j S1 f d=>?_
 clear e k
 split at b
 ·rename_i h
  ext b
  exact⟨by have:=d8.mp (Bool.and_eq_true_iff.mp h).1;rw[←f.length];unfold sizeLine;omega,cN.tup (s:={s with heap:=C,toks:=tk}) (d9 d) S1 f tk⟩
 ·ext b
theorem pN{o:CmpOp}{e:Expr}(h:cZ e=true):behindInMarks o e=false:=by
 cases e<;>first|exact Mi.nft h|rfl
theorem yP{l o:Expr}{O:CmpOp}{p:Pos}(ab:Gd J w T K H)(M:cw J w H D n Fn.ev)(d:Rm A F (n+1))(ae:Sg J w H F L X G Y.loc s.heap)(N:bG Z Y F L X)(hn:cZ o=true)
 (e:(bd (Fn.ev Y l G) λa G=>bd (Fn.ev Y o G) λb G=>(Mi.cmp T G O a b).map λc=>R.ok (.bool c) G)=some r)(k:K1 J w H F L X Y.loc s D (λX v y=>VR X v y) r Q E):
 wpAny (model J w) A (eval (.Compare l [O] [o] p) Z) Q E s:=by
 refine wpAny_Compare1 ?_ (pN hn)
 refine cI (P:=λX v y=>VR X v y) e k (λi g=>M (d.le (by lia)) ae N i g) λ{v I S C tk y} z m S1 p1 g=>?_
 clear e k
 refine cI (P:=λX v y=>VR X v y) z g (λi j=>M (s:={s with heap:=C,toks:=tk}) (d.le (by lia)) S1 (N.pre m.pre) i j) λ{v2 aa u h f y2} B q x p2 j=>?_
 clear g z
 obtain⟨c,V,rfl⟩:=map_some B
 clear B
 exact iF (s:={s with heap:=h,toks:=f}) ab x V (p1.pre q.pre) p2 d.units λt=>okN (s:={s with heap:=h,toks:=f}) j x rfl t
theorem yQ{l o:Expr}{V:CmpOp}{p:Pos}{Q:Bool->Shared->Prop}(ab:Gd J w T K H)(O:cw J w H D n Fn.ev)(d:Rm A F (n+1))(ae:Sg J w H F L X G Y.loc s.heap)(N:bG Z Y F L X)(hn:cZ o=true)
 (e:(bd (Fn.ev Y l G) λa G=>bd (Fn.ev Y o G) λb G=>(Mi.cmp T G V a b).map λc=>R.ok (.bool c) G)=some r)(k:K1 J w H F L X Y.loc s D (λ_ v b=>truth v=some b) r Q E){g:Sem Value}:
 wpAny (model J w) A (isTrue (.Compare l [V] [o] p) Z g) Q E s:=by
 refine wpAny_isTrue_Compare1 ?_ (pN hn)
 refine cI (P:=λX v y=>VR X v y) e k (λj i=>O (d.le (by lia)) ae N j i) λ{v I S C tk y} B q S1 p1 i=>?_
 clear e k
 refine cI (P:=λX v y=>VR X v y) B i (λj m=>O (s:={s with heap:=C,toks:=tk}) (d.le (by lia)) S1 (N.pre q.pre) j m) λ{v2 aa x h f y2} M u z p2 m=>?_
 clear i B
 obtain⟨c,e4,rfl⟩:=map_some M
 clear M
 exact iF (s:={s with heap:=h,toks:=f}) ab z e4 (p1.pre u.pre) p2 d.units λt=>wpAny_truthy_bool (Norm.now (s:={s with heap:=h,toks:=f}) (P:=λ_ b=>truth (.bool c)=some b) m z rfl t)
theorem s6{p o:CmpOp}{a r:Expr}(h:cZ r=true):lastMarks [p,o] [a,r]=false:=by
 show lastMarks [o] [r]=false
 exact pN h
theorem yR{l o o2:Expr}{op q:CmpOp}{p:Pos}(ah:Gd J w T K H)(V:cw J w H D n Fn.ev)(R:Rm A F (n+1))(ai:Sg J w H F L X G Y.loc s.heap)(N:bG Z Y F L X)(hn:cZ o2=true)
 (e:kQ T Fn Y l op o q o2 G=some r)(k:K1 J w H F L X Y.loc s D (λX v y=>VR X v y) r Q E):
 wpAny (model J w) A (eval (.Compare l [op,q] [o,o2] p) Z) Q E s:=by
 refine Compare_chain ?_ (s6 hn)
 unfold kQ at e
 refine cI (P:=λX v y=>VR X v y) e k (λi B=>V (R.le (by lia)) ai N i B) λ{v I S C tk y} e2 u S1 p1 B=>?_
 clear e k
 refine chain_link ?_
 refine cI (P:=λX v y=>VR X v y) e2 B (λi j=>V (s:={s with heap:=C,toks:=tk}) (R.le (by lia)) S1 (N.pre u.pre) i j) λ{v2 af d h a y2} M g x p2 j=>?_
 clear B e2
 rcases eQ M with⟨O,z⟩|⟨O,z⟩
 ·clear M
  refine iF (s:={s with heap:=h,toks:=a}) ah x O (p1.pre g.pre) p2 R.units λt=>wpAny_truthy_bool ?_
  rw[if_pos rfl]
  refine chain_last ?_
  have aa:bV F L d h d h:=.refl
  have m:=K1.move (t₁:=t) aa j
  clear j
  refine cI (s:={s with heap:=h,toks:=t}) (P:=λX v y=>VR X v y) z m (λi k3=>V (s:={s with heap:=h,toks:=t}) (R.le (by lia)) x ((N.pre u.pre).pre g.pre) i k3) λ{v3 ag ae f b y3} e6 ab S3 p3 k3=>?_
  clear m z
  obtain⟨c,e7,rfl⟩:=map_some e6
  clear e6
  exact iF (s:={s with heap:=f,toks:=b}) ah S3 e7 (p2.pre ab.pre) p3 R.units λt=>okN (s:={s with heap:=f,toks:=b}) k3 S3 rfl t
 ·clear M
  refine iF (s:={s with heap:=h,toks:=a}) ah x O (p1.pre g.pre) p2 R.units λt=>wpAny_truthy_bool ?_
  rw[if_neg Bool.false_ne_true]
  ext z
  exact okN (s:={s with heap:=h,toks:=a}) j x rfl t
theorem yS{l o o2:Expr}{op x:CmpOp}{p:Pos}{Q:Bool->Shared->Prop}(ah:Gd J w T K H)(hv:cw J w H D n Fn.ev)(R:Rm A F (n+1))(ai:Sg J w H F L X G Y.loc s.heap)(N:bG Z Y F L X)(hn:cZ o2=true)
 (e:kQ T Fn Y l op o x o2 G=some r)(k:K1 J w H F L X Y.loc s D (λ_ v b=>truth v=some b) r Q E){j:Sem Value}:
 wpAny (model J w) A (isTrue (.Compare l [op,x] [o,o2] p) Z j) Q E s:=by
 refine isTrue_chain ?_ (s6 hn)
 unfold kQ at e
 refine cI (P:=λX v y=>VR X v y) e k (λm O=>hv (R.le (by lia)) ai N m O) λ{v I S C tk y} e2 z S1 p1 O=>?_
 clear e k
 refine test_link ?_
 refine cI (P:=λX v y=>VR X v y) e2 O (λm q=>hv (s:={s with heap:=C,toks:=tk}) (R.le (by lia)) S1 (N.pre z.pre) m q) λ{v2 af f h a y2} V i B p2 q=>?_
 clear O e2
 rcases eQ V with⟨e4,M⟩|⟨e4,M⟩
 ·clear V
  refine iF (s:={s with heap:=h,toks:=a}) ah B e4 (p1.pre i.pre) p2 R.units λt=>wpAny_truthy_bool ?_
  rw[if_pos rfl]
  refine test_last ?_
  have aa:bV F L f h f h:=.refl
  have u:=K1.move (t₁:=t) aa q
  clear q
  refine cI (s:={s with heap:=h,toks:=t}) (P:=λX v y=>VR X v y) M u (λm k3=>hv (s:={s with heap:=h,toks:=t}) (R.le (by lia)) B ((N.pre z.pre).pre i.pre) m k3) λ{v3 ag ae g d y3} e6 ab S3 p3 k3=>?_
  clear u M
  obtain⟨c,e7,rfl⟩:=map_some e6
  clear e6
  exact iF (s:={s with heap:=g,toks:=d}) ah S3 e7 (p2.pre ab.pre) p3 R.units λt=>wpAny_truthy_bool (Norm.now (s:={s with heap:=g,toks:=d}) (P:=λ_ b=>truth (.bool c)=some b) k3 S3 rfl t)
 ·clear V
  refine iF (s:={s with heap:=h,toks:=a}) ah B e4 (p1.pre i.pre) p2 R.units λt=>wpAny_truthy_bool ?_
  rw[if_neg Bool.false_ne_true]
  ext M
  exact Norm.now (s:={s with heap:=h,toks:=a}) (P:=λ_ b=>truth (.bool false)=some b) q B rfl t
theorem yT{o:Expr}{a:Str}{p:Pos}(B:Gd J w T K H)(f:∀z l,T.cls z=some l->gN K z l)(j:cw J w H D n Fn.ev)(b:Rm A F (n+1))(M:Sg J w H F L X G Y.loc s.heap)(N:bG Z Y F L X)(i:fo o=true)
 (e:(bd (Fn.ev Y o G) λv G=>(dq T G v a).map λx=>R.ok x G)=some r)(k:K1 J w H F L X Y.loc s D (λX v y=>VR X v y) r Q E):wpAny (model J w) A (eval (.Attribute o a p) Z) Q E s:=by
 refine Attribute_any_ ?_ (by rw[arm_eval_Attribute,pM i])
 refine cI (P:=λX v y=>VR X v y) e k (λg c=>j (b.le (by lia)) M N g c) λ{v I S C tk y} d u S1 m c=>?_
 clear e k
 obtain⟨x,h,rfl⟩:=map_some d
 clear d
 exact sJ (s:={s with heap:=C,toks:=tk}) B f S1 h m λy t q=>okN (s:={s with heap:=C,toks:=tk}) c S1 q t
theorem yU(i:Expr)(o v:Value):∃l,subscripted i false o v=operate l (getItem o v):=by
 cases i<;>first|exact⟨_,rfl⟩|skip
 rename_i a b c p
 cases c<;>exact⟨_,rfl⟩
theorem mQ{o i:Expr}{p:Pos}(h:wpAny (model J w) A (eval o Z) (λv b=>wpAny (model J w) A (eval i Z) (λe a=>(∃T id,typeLookup (.type T) "__getitem__" =pure (some (.builtin id))/\a.TypeIs v T)/\wpAny (model J w) A (getItem v e) Q E a) E b) E s):
 wpAny (model J w) A (eval (.Subscript o i p) Z) Q E s:=by
 rw[eval_Subscript]
 refine wpAny_bind (wpAny_mono h (λv b C=>wpAny_bind (wpAny_holding (wpAny_mono C (λe a c=>wpAny_bind (wpAny_standAt ?_)) λq t x=>x))) λq t x=>x)
 obtain⟨⟨n,id,k,f⟩,j⟩:=c
 obtain⟨l,m⟩:=yU i v e
 refine wpAny_bind ?_
 rw[getitemInPython_of_ne f.not_modules]
 refine wpAny_bind (wpAny_specialOf f k ?_)
 refine wpAny_pure ?_
 rw[m]
 exact wpAny_bind (wpAny_operating (wpAny_mono j (λr g d=>wpAny_bind (wpAny_letTemporaryGo (wpAny_pure d))) λq t x=>x))
theorem yV{o i v:V}{x:Value}(y:Gd J w T K H)(z:Sg J w H F L X G W s.heap)(e:Mi.sub T G o i=some v)(c:VR X o x):
 ∃l id,typeLookup (.type l) "__getitem__" =pure (some (.builtin id))/\s.TypeIs x l:=by
 unfold Mi.sub at e
 split at e
 ·split at e
  ·obtain⟨xs,f,n⟩:=Option.bind_eq_some_iff.mp e
   obtain⟨a,ys,m,rfl,b,A⟩:=sN y z f c
   clear c
   rcases b with b|b
   ·exact⟨_,_,slot_list_getitem.lookup,b.isList.typeIs⟩
   ·exact⟨_,_,PyProof.Rows.slot_tuple_getitem.lookup,_,b,rfl⟩
  ·ext e
 ·split at e
  ·obtain⟨p,r,e⟩:=Mi.sA e
   obtain⟨a,k,q,d,A⟩:=z.dict r
   obtain⟨u,h,rfl⟩:=c
   rw[q] at h;ext h
   obtain⟨t,A,B,j,⟨g,E⟩,M⟩:=d
   exact⟨_,_,slot_dict_getitem.lookup,_,j,g⟩
  ·obtain⟨p,f,n⟩:=Option.bind_eq_some_iff.mp e
   obtain⟨A,k,d,B⟩:=y.dW _ _ f
   ext c
   obtain⟨t,A,B,j,⟨g,E⟩,M⟩:=d
   exact⟨_,_,slot_dict_getitem.lookup,_,z.keep _ _ j,g⟩
  ·ext e
theorem yW{o i:Expr}{p:Pos}(ab:Gd J w T K H)(M:cw J w H D n Fn.ev)(b:Rm A F (n+1))(ae:Sg J w H F L X G Y.loc s.heap)(N:bG Z Y F L X)
 (e:(bd (Fn.ev Y o G) λv G=>bd (Fn.ev Y i G) λk G=>(Mi.sub T G v k).map λx=>R.ok x G)=some r)(k:K1 J w H F L X Y.loc s D (λX v y=>VR X v y) r Q E):wpAny (model J w) A (eval (.Subscript o i p) Z) Q E s:=by
 refine mQ ?_
 refine cI (P:=λX v y=>VR X v y) e k (λg d=>M (b.le (by lia)) ae N g d) λ{v I S C tk y} u l S1 O d=>?_
 clear e k
 refine cI (P:=λX v y=>VR X v y) u d (λg j=>M (s:={s with heap:=C,toks:=tk}) (b.le (by lia)) S1 (N.pre l.pre) g j) λ{v2 aa m h a y2} z c f V j=>?_
 clear d u
 obtain⟨x,B,rfl⟩:=map_some z
 clear z
 exact⟨yV (s:={s with heap:=h,toks:=a}) ab f B (O.pre c.pre),xI (s:={s with heap:=h,toks:=a}) ab f B (O.pre c.pre) V λy t q=>okN (s:={s with heap:=h,toks:=a}) j f q t⟩
theorem s7(b:Sg J w H F L X G W s.heap)(o:Obj){r:R V}(k:K1 J w H F L X W s D (λX v y=>VR X v y) r Q E)(tk:Nat):Sg J w H F L X G W (s.heap.push o)/\K1 J w H F L X W {s with heap:=s.heap.push o,toks:=tk} D (λX v y=>VR X v y) r Q E:=by
 obtain⟨a,P⟩:=b.sM o
 exact⟨a,K1.move P.iH k⟩
theorem yX(ys:Array Value)(k:Nat):slicePick ys (some (k:Int)) none none=(ys.toList.drop k).toArray:=by
 rw[slicePick_plain]
 simp only[Option.elim_some,Option.elim_none,clipAt_nat]
 congr 1
 rw[List.take_of_length_le (by simp)]
 by_cases h:k<=ys.size
 ·rw[Nat.min_eq_left h]
 ·rw[Nat.min_eq_right (by omega),List.drop_of_length_le (by simp),List.drop_of_length_le (by simp;omega)]
theorem s8(ys:Array Value)(k:Nat):slicePick ys none (some (k:Int)) none=(ys.toList.take k).toArray:=by
 rw[slicePick_plain]
 simp only[Option.elim_some,Option.elim_none,clipAt_nat,List.drop_zero,Nat.sub_zero]
 congr 1
 by_cases h:k<=ys.size
 ·rw[Nat.min_eq_left h]
 ·rw[Nat.min_eq_right (by omega),List.take_of_length_le (by simp),List.take_of_length_le (by simp;omega)]
theorem pO{xs:List V}{i:Nat}{y:Value}{s:Shared}{b d c:Value}{l u t:Option Int}{g:List V}
 (aa:Sg J w H F L X G W s.heap)(p:G.get i=some (.list xs))(P:xs.length<4096)(q:VR X (.ref i) y)(K:IsPart b l)(M:IsPart d u)(ps:IsPart c t)(n:t≠some 0)
 (x:∀ys:Array Value,All2 (VR X) xs ys.toList->∃z,slicePick ys l u t=z.toArray/\All2 (VR X) g z)
 (k:K1 J w H F L X W s D (λX v y=>VR X v y) (.ok (.ref G.length) (G.push (.list g))) Q E)(tk:Nat):
 (∃T id,typeLookup (.type T) "__getitem__" =pure (some (.builtin id))/\({s with heap:=s.heap.push {cls:=.type "slice",data:=.fields #[b,d,c]},toks:=tk}:Shared).TypeIs y T)/\
   wpAny (model J w) A (getItem y (.ref s.heap.objs.size)) Q E {s with heap:=s.heap.push {cls:=.type "slice",data:=.fields #[b,d,c]},toks:=tk}:=by
 obtain⟨e,B⟩:=s7 aa {cls:=.type "slice",data:=.fields #[b,d,c]} k tk
 obtain⟨a,ys,m,o,f,r⟩:=e.list p
 obtain⟨O,h,rfl⟩:=q
 rw[o] at h;ext h
 obtain⟨z,j,N⟩:=x ys r
 have R:xs.length=ys.size:=by simpa using r.length
 refine⟨⟨_,_,slot_list_getitem.lookup,f.isList.typeIs⟩,wpAny_getItem_list_slice f.isList (Heap.IsSliceOf.new ..) K M ps n ?_ (by unfold sizeLine;lia)⟩
 rw[j]
 exact cN.list (s:={s with heap:=s.heap.push {cls:=.type "slice",data:=.fields #[b,d,c]},toks:=tk}) (d9 B) e N tk
theorem yY{a:Addr}{ys:Array Value}{m:Nat}{s:Shared}{b d c:Value}{l u t:Option Int}{g:List V}{z:List Value}
 (x:Sg J w H F L X G W s.heap)(j:H.get? a=some {cls:=.type "list",dict:=none,data:=.seq ys m,slots:= #[]})(q:ys.size<4096)(p:IsPart b l)(o:IsPart d u)(ps:IsPart c t)(i:t≠some 0)
 (h:slicePick ys l u t=z.toArray)(r:All2 (VR X) g z)
 (k:K1 J w H F L X W s D (λX v y=>VR X v y) (.ok (.ref G.length) (G.push (.list g))) Q E)(tk:Nat):
 (∃T id,typeLookup (.type T) "__getitem__" =pure (some (.builtin id))/\({s with heap:=s.heap.push {cls:=.type "slice",data:=.fields #[b,d,c]},toks:=tk}:Shared).TypeIs (.ref a) T)/\
   wpAny (model J w) A (getItem (.ref a) (.ref s.heap.objs.size)) Q E {s with heap:=s.heap.push {cls:=.type "slice",data:=.fields #[b,d,c]},toks:=tk}:=by
 obtain⟨e,n⟩:=s7 x {cls:=.type "slice",data:=.fields #[b,d,c]} k tk
 have f:IsL (s.heap.push {cls:=.type "slice",data:=.fields #[b,d,c]}) a ys m:=e.keep _ _ j
 refine⟨⟨_,_,slot_list_getitem.lookup,f.isList.typeIs⟩,wpAny_getItem_list_slice f.isList (Heap.IsSliceOf.new ..) p o ps i ?_ (by unfold sizeLine;omega)⟩
 rw[h]
 exact cN.list (s:={s with heap:=s.heap.push {cls:=.type "slice",data:=.fields #[b,d,c]},toks:=tk}) (d9 n) e r tk
theorem yZ{o:Expr}{k:Int}{m:Nat}{p q j:Pos}(h:cw J w H D n Fn.ev)(R:Rm A F (n+1))(K:Sg J w H F L X G Y.loc s.heap)(N:bG Z Y F L X)
 (e:(bd (Fn.ev Y o G) λv G=>gZ v k G)=some r)(d:K1 J w H F L X Y.loc s D (λX v y=>VR X v y) r Q E):wpAny (model J w) A (eval (.Subscript o (.Slice (some (.Constant (.int k) m p)) .none .none q) j) Z) Q E s:=by
 refine mQ ?_
 refine cI (P:=λX v y=>VR X v y) e d (λg b=>h (R.le (by lia)) K N g b) λ{v I S C tk y} a B S1 x b=>?_
 clear e d
 unfold gZ at a
 split at a
 ·split at a
  ·rename_i i xs hi
   split at a
   ·rename_i hc
    ext a
    obtain⟨c,f⟩:=Bool.and_eq_true_iff.mp hc
    have c:=jQ.mp c
    refine wpAny_Slice (wpAny_Constant_int (k:=m) (pos:=p) (wpAny_pure (wpAny_pure ?_)))
    refine pO (s:={s with heap:=C,toks:=tk}) (l:=some k) (u:=none) (t:=none) S1 hi (d8.mp f) x (.int _ _) .none .none (by simp) (λys z=>⟨_,?_,z.drop k.toNat⟩) b _
    rw[show k=((k.toNat:Nat):Int) from(Int.toNat_of_nonneg c.1).symm]
    exact yX ys _
   ·ext a
  ·ext a
 ·ext a
theorem y_{o:Expr}{k:Int}{m:Nat}{p q V:Pos}(ab:Gd J w T K H)(O:cw J w H D n Fn.ev)(R:Rm A F (n+1))(ae:Sg J w H F L X G Y.loc s.heap)(N:bG Z Y F L X)
 (e:(bd (Fn.ev Y o G) λv G=>iz T v k G)=some r)(j:K1 J w H F L X Y.loc s D (λX v y=>VR X v y) r Q E):wpAny (model J w) A (eval (.Subscript o (.Slice .none (some (.Constant (.int k) m p)) .none q) V) Z) Q E s:=by
 refine mQ ?_
 refine cI (P:=λX v y=>VR X v y) e j (λz d=>O (R.le (by lia)) ae N z d) λ{v I S C tk y} b aa S1 x d=>?_
 clear e j
 unfold iz at b
 split at b
 ·split at b
  ·rename_i i xs hi
   split at b
   ·rename_i hc
    ext b
    obtain⟨c,h⟩:=Bool.and_eq_true_iff.mp hc
    have c:=jQ.mp c
    refine wpAny_Slice (wpAny_pure (wpAny_Constant_int (k:=m) (pos:=p) (wpAny_pure ?_)))
    refine pO (s:={s with heap:=C,toks:=tk}) (l:=none) (u:=some k) (t:=none) S1 hi (d8.mp h) x .none (.int _ _) .none (by simp) (λys f=>⟨_,?_,f.take k.toNat⟩) d _
    rw[show k=((k.toNat:Nat):Int) from(Int.toNat_of_nonneg c.1).symm]
    exact s8 ys _
   ·ext b
  ·ext b
 ·rename_i a
  split at b
  ·rename_i pr B
   split at b
   ·rename_i hc
    ext b
    obtain⟨g,c⟩:=Bool.and_eq_true_iff.mp hc
    obtain⟨c,h⟩:=Bool.and_eq_true_iff.mp c
    have g:=Nat.eq_of_beq_eq_true g
    have c:=jQ.mp c
    obtain⟨ys,m',M,f⟩:=ab.arg pr.1 pr.2 B
    ext x
    have l1:pr.2.length=ys.size:=by simpa using f.length
    refine wpAny_Slice (wpAny_pure (wpAny_Constant_int (k:=m) (pos:=p) (wpAny_pure ?_)))
    refine yY (s:={s with heap:=C,toks:=tk}) (l:=none) (u:=some k) (t:=none) S1 (g▸M) (by have:=d8.mp h;lia) .none (.int _ _) .none (by simp) ?_ ((f.mono λ_ _ q=>q.pre (hO S)).take k.toNat) d _
    rw[show k=((k.toNat:Nat):Int) from(Int.toNat_of_nonneg c.1).symm]
    exact s8 ys _
   ·ext b
  ·ext b
 ·ext b
theorem za{o:Expr}{m:Nat}{p q f t:Pos}(h:cw J w H D n Fn.ev)(R:Rm A F (n+1))(z:Sg J w H F L X G Y.loc s.heap)(N:bG Z Y F L X)
 (e:(bd (Fn.ev Y o G) λv G=>g9 v G)=some r)(c:K1 J w H F L X Y.loc s D (λX v y=>VR X v y) r Q E):wpAny (model J w) A (eval (.Subscript o (.Slice .none .none (some (.UnaryOp .USub (.Constant (.int 1) m p) t)) q) f) Z) Q E s:=by
 refine mQ ?_
 refine cI (P:=λX v y=>VR X v y) e c (λd b=>h (R.le (by lia)) z N d b) λ{v I S C tk y} a x S1 g b=>?_
 clear e c
 unfold g9 at a
 split at a
 ·split at a
  ·rename_i i xs hi
   split at a
   ·rename_i c2
    ext a
    refine wpAny_Slice (wpAny_pure (wpAny_pure (wpAny_UnaryOp (pos:=t) (wpAny_Constant_int (k:=m) (pos:=p) (PyProof.Rows.neg_int ?_)))))
    exact pO (s:={s with heap:=C,toks:=tk}) (l:=none) (u:=none) (t:=some (-1)) S1 hi (d8.mp c2) g .none .none (.int _ _) (by decide) (λys j=>⟨_,krv_pick ys,j.reverse⟩) b _
   ·ext a
  ·ext a
 ·ext a
theorem lr(i:hU J w H D n Fn.ev){t:Expr}{r:R V}{f:V->Hp->Option (R V)}{x:Option (R V)}(e:bd (Fn.ev Y t G) f=some r)(g:∀a I r,f a I=some r->∃b,truth a=some b){c:R V}(d:Fn.ev Y t G=some c):
 ∀v I,c=.ok v I->∃b,truth v=some b:=λv I h=>by
 subst h
 rw[d] at e
 exact g v I r e
theorem zb{t b o:Expr}{p:Pos}(l:cw J w H D n Fn.ev)(j:hU J w H D n Fn.ev)(R:Rm A F (n+1))(u:Sg J w H F L X G Y.loc s.heap)(N:bG Z Y F L X)
 (e:kP T Fn Y t b o G=some r)(k:K1 J w H F L X Y.loc s D (λX v y=>VR X v y) r Q E):wpAny (model J w) A (eval (.IfExp t b o p) Z) Q E s:=by
 unfold kP at e
 refine wpAny_IfExp ?_
 refine cI (P:=λz v b=>truth v=some b) e k (λi d=>j (R.le (by lia)) u N i (lr j (x:=none) e (λa I r h=>by rcases eQ h with⟨q,z⟩|⟨q,B⟩<;>exact⟨_,q⟩) i) d) λ{v I S C tk y} m c S1 f d=>?_
 rcases eQ m with⟨q,g⟩|⟨q,g⟩
 ·rw[f] at q;ext q
  clear f
  exact l (s:={s with heap:=C,toks:=tk}) (R.le (by lia)) S1 (N.pre c.pre) g d
 ·rw[f] at q;ext q
  clear f
  exact l (s:={s with heap:=C,toks:=tk}) (R.le (by lia)) S1 (N.pre c.pre) g d
theorem zc{t b o:Expr}{p:Pos}{Q:Bool->Shared->Prop}{l:Sem Value}(d:hU J w H D n Fn.ev)(R:Rm A F (n+1))(z:Sg J w H F L X G Y.loc s.heap)(N:bG Z Y F L X)
 (e:kP T Fn Y t b o G=some r)(m:∀v I,r=.ok v I->∃b,truth v=some b)(k:K1 J w H F L X Y.loc s D (λB v b=>truth v=some b) r Q E):wpAny (model J w) A (isTrue (.IfExp t b o p) Z l) Q E s:=by
 unfold kP at e
 rw[arm_isTrue_IfExp]
 refine wpAny_bind ?_
 refine cI (P:=λB v b=>truth v=some b) e k (λj f=>d (R.le (by lia)) z N j (lr d (x:=none) e (λa I r h=>by rcases eQ h with⟨q,B⟩|⟨q,K⟩<;>exact⟨_,q⟩) j) f) λ{v I S C tk y} u c S1 g f=>?_
 rcases eQ u with⟨q,i⟩|⟨q,i⟩
 ·rw[g] at q;ext q
  clear g
  exact d (s:={s with heap:=C,toks:=tk}) (R.le (by lia)) S1 (N.pre c.pre) i m f
 ·rw[g] at q;ext q
  clear g
  exact d (s:={s with heap:=C,toks:=tk}) (R.le (by lia)) S1 (N.pre c.pre) i m f
set_option backward.match.sparseCases true in
theorem zd(l:cw J w H D n Fn.ev)(j:pJ J w H D n Fn.fk):pJ J w H D (n+1) (iA T Fn):=by
 intro A F L X Z Y G s h m r o Q E R u N e k
 unfold iA at e
 split at e
 ·ext e
 ·rename_i x rest
  split at e
  ·show wpAny _ A (boolOp o h [eval x Z]) Q E s
   show wpAny _ A (eval x Z) Q E s
   refine cI (P:=λX v y=>VR X v y) e k (λi a=>l (R.le (by lia)) u N i a) λ{v I S C tk y} d f S1 p a=>?_
   clear e k
   obtain⟨b,c,rfl⟩:=map_some d
   clear d
   exact okN (s:={s with heap:=C,toks:=tk}) a S1 p tk
  ·rename_i g rest
   show wpAny _ A (do
    let v←eval x Z
    standAt o
    let t←holding [v] (truthy v)
    match h,t with
    |.And,false|.Or,true=>pure v
    |_,_=>boolOp o h (evalEach (g::rest) Z)) Q E s
   refine wpAny_bind ?_
   refine cI (P:=λX v y=>VR X v y) e k (λi a=>l (R.le (by lia)) u N i a) λ{v I S C tk y} d f S1 p a=>?_
   clear e k
   refine wpAny_bind (wpAny_standAt (wpAny_bind (wpAny_holding ?_)))
   cases h with
   |And=>
    rcases eQ d with⟨q,c⟩|⟨q,c⟩
    ·rw[jU q p]
     refine wpAny_truthy_bool ?_
     exact j (s:={s with heap:=C,toks:=tk}) (R.le (by lia)) S1 (N.pre f.pre) c a
    ·clear d
     have:=jU q p
     subst this
     refine wpAny_truthy_bool (wpAny_pure ?_)
     ext c
     exact okN (s:={s with heap:=C,toks:=tk}) a S1 p tk
   |Or=>
    rcases eQ d with⟨q,c⟩|⟨q,c⟩
    ·clear d
     have:=jU q p
     subst this
     refine wpAny_truthy_bool (wpAny_pure ?_)
     ext c
     exact okN (s:={s with heap:=C,toks:=tk}) a S1 p tk
    ·rw[jU q p]
     refine wpAny_truthy_bool ?_
     exact j (s:={s with heap:=C,toks:=tk}) (R.le (by lia)) S1 (N.pre f.pre) c a
set_option backward.match.sparseCases true in
theorem ze(j:hU J w H D n Fn.ev)(u:pK J w H D n Fn.fk):pK J w H D (n+1) (iA T Fn):=by
 intro A F L X Z Y G s o z r Q E R B N e k
 unfold iA at e
 split at e
 ·ext e
 ·rename_i x rest
  split at e
  ·have l:∀b m,Q b m->wpAny (model J w) A (match o,b with|.And,false=>pure false|.Or,true=>pure true|_,_=>allTrue o [] Z) Q E m:=λb m q=>by
    cases o<;>cases b<;>exact wpAny_pure q
   show wpAny _ A (do
    match o,←isTrue x Z (eval x Z) with
    |.And,false=>pure false
    |.Or,true=>pure true
    |_,_=>allTrue o [] Z) Q E s
   refine wpAny_bind ?_
   refine cI (P:=λK v b=>truth v=some b) e k (λf c=>j (R.le (by lia)) B N f (lr j (x:=none) e (λa I r h=>by obtain⟨b,q,K⟩:=map_some h;exact⟨b,q⟩) f) c) λ{v I S C tk y} g t S1 p c=>?_
   clear e k
   obtain⟨b,d,rfl⟩:=map_some g
   clear g
   exact l y _ (Norm.now (s:={s with heap:=C,toks:=tk}) (P:=λK b=>truth v=some b) c S1 p tk)
  ·rename_i i rest
   show wpAny _ A (do
    match o,←isTrue x Z (eval x Z) with
    |.And,false=>pure false
    |.Or,true=>pure true
    |_,_=>allTrue o (i::rest) Z) Q E s
   refine wpAny_bind ?_
   refine cI (P:=λK v b=>truth v=some b) e k (λf c=>j (R.le (by lia)) B N f (lr j (x:=none) e (λa I r h=>by
    cases o<;>(rcases eQ h with⟨q,K⟩|⟨q,M⟩<;>exact⟨_,q⟩)) f) c) λ{v I S C tk y} g t S1 p c=>?_
   clear e k
   cases o with
   |And=>
    rcases eQ g with⟨q,d⟩|⟨q,d⟩
    ·rw[p] at q;ext q
     exact u (s:={s with heap:=C,toks:=tk}) (R.le (by lia)) S1 (N.pre t.pre) d c
    ·rw[p] at q;ext q
     ext d
     exact wpAny_pure (Norm.now (s:={s with heap:=C,toks:=tk}) (P:=λK b=>truth v=some b) c S1 p tk)
   |Or=>
    rcases eQ g with⟨q,d⟩|⟨q,d⟩
    ·rw[p] at q;ext q
     ext d
     exact wpAny_pure (Norm.now (s:={s with heap:=C,toks:=tk}) (P:=λK b=>truth v=some b) c S1 p tk)
    ·rw[p] at q;ext q
     exact u (s:={s with heap:=C,toks:=tk}) (R.le (by lia)) S1 (N.pre t.pre) d c
open PySem.SeqAt PySem.MeetsSeq
variable{I:Hp}
theorem pP{a:Str}{k:Nat}(h:f9 a=k):(k=1->a=Str.ofString "append")/\(k=2->a=Str.ofString "pop")/\(k=3->a=Str.ofString "index")/\(k=4->a=Str.ofString "get"):=by
 unfold f9 at h
 cases b:sq a (z "append")<;>rw[b] at h
 ·cases c:sq a (z "pop")<;>rw[c] at h
  ·cases d:sq a (z "index")<;>rw[d] at h
   ·cases f:sq a (z "get")<;>rw[f] at h
    ·subst h;exact⟨λe=>(nomatch e),λe=>(nomatch e),λe=>(nomatch e),λe=>(nomatch e)⟩
    ·subst h;exact⟨λe=>(nomatch e),λe=>(nomatch e),λe=>(nomatch e),λg=>d7.mp f⟩
   ·subst h;exact⟨λe=>(nomatch e),λe=>(nomatch e),λg=>d7.mp d,λe=>(nomatch e)⟩
  ·subst h;exact⟨λe=>(nomatch e),λg=>d7.mp c,λe=>(nomatch e),λe=>(nomatch e)⟩
 ·subst h;exact⟨λg=>d7.mp b,λe=>(nomatch e),λe=>(nomatch e),λe=>(nomatch e)⟩
theorem pQ{i k:Nat}{a:Addr}{c:List V}{ys:List Value}{id:String}(ae:Sg J w H F L X G W s.heap)(g:X[i]? =some a)(o:(k=1/\id="list.append")\/(k=2/\id="list.pop")\/(k=3/\id="list.index"))
 (e:cf T (.ref i) k c G=some r)(B:All2 (VR X) c ys)(K:K1 J w H F L X W s D (λX v y=>VR X v y) r Q E):wpAny (model J w) A (call (.builtin id) (.ref a::ys)) Q E s:=by
 unfold cf at e
 dsimp only at e
 split at e
 ·rename_i xs hi
  have z:s.TypeIs (.ref a) "list" :=by
   obtain⟨a',ab,m,n,l,_⟩:=ae.list hi
   rw[g] at n;ext n
   exact l.isList.typeIs
  rcases o with⟨rfl,rfl⟩|⟨rfl,rfl⟩|⟨rfl,rfl⟩
  ·change i0 i xs c G=some r at e
   unfold i0 at e
   split at e
   ·split at e
    ·rename_i v h
     ext e
     obtain⟨_,rfl,f⟩:=B.one
     obtain⟨b,m,d,l,q⟩:=yd ae hi g (d8.mp h) f (d9 K)
     exact call_meets PySem.F.slot_list_append z PySem.F.entry_list_append (PySem.F.args_list_append_2 _ _) (list_append a b m _ d) ⟨l,q⟩
    ·ext e
   ·ext e
  ·change i5 i xs c G=some r at e
   unfold i5 at e
   cases c with
   |nil=>
    dsimp only at e
    split at e
    ·rename_i h
     split at e
     ·rename_i v P
      ext e
      ext B
      have h:=d8.mp h
      obtain⟨b,m,y,d,l,R,q⟩:=ye ae hi g (by omega) P (d9 K)
      exact call_meets PySem.F.slot_list_pop z PySem.F.entry_list_pop (PySem.F.args_list_pop_1 _) (list_pop_last a b m y R d) ⟨l,q⟩
     ·ext e
    ·ext e
   |cons v c=>
    cases v<;>try exact Mi.nos e
    case int j=>
    cases c with
    |cons=>exact Mi.nos e
    |nil=>
    dsimp only at e
    split at e
    ·rename_i h
     obtain⟨M,h⟩:=Bool.and_eq_true_iff.mp h
     have M:=gK.mp M
     subst M
     have h:=d8.mp h
     split at e
     ·rename_i v aa
      ext e
      obtain⟨_,rfl,f⟩:=B.one
      obtain⟨t,rfl⟩:=f
      obtain⟨b,m,j,u,k,y,d,ej,l,hf,hk,R,q⟩:=yf (t:=t) ae hi g (by simp at h;lia) (d9 K)
      rw[ej]
      exact call_meets PySem.F.slot_list_pop z PySem.F.entry_list_pop (PySem.F.args_list_pop_2 _ _) (list_pop_at a b m j u k y hf hk R d) ⟨l,q⟩
     ·ext e
    ·ext e
  ·change gF xs c G=some r at e
   unfold gF at e
   split at e
   ·split at e
    ·rename_i x h
     obtain⟨j,e1,rfl⟩:=map_some e
     obtain⟨_,rfl,f⟩:=B.one
     have h:=d8.mp h
     obtain⟨b,m,p,j',hj,l,he,d,N,O,q⟩:=yg ae hi g (by omega) e1 f (d9 K)
     exact call_meets PySem.F.slot_list_index z PySem.F.entry_list_index (PySem.F.args_list_index_2 _ _) (list_index a b m _ p he j' hj d N O) ⟨l,q⟩
    ·ext e
   ·ext e
 ·split at e
  ·rcases o with⟨q,_⟩|⟨q,_⟩|⟨q,_⟩<;>specialize q
  ·ext e
 ·ext e
theorem zf{i:Nat}{a:Addr}{b:List V}{ys:List Value}(t:Gd J w T K H)(u:Sg J w H F L X G W s.heap)(c:X[i]? =some a)
 (e:cf T (.ref i) 4 b G=some r)(n:All2 (VR X) b ys)(o:K1 J w H F L X W s D (λX v y=>VR X v y) r Q E):wpAny (model J w) A (call (.builtin "dict.get") (.ref a::ys)) Q E s:=by
 unfold cf at e
 dsimp only at e
 split at e
 ·ext e
 ·rename_i g hi
  change jF g b G=some r at e
  unfold jF at e
  split at e
  ·rename_i k d
   split at e
   ·rename_i hk
    ext e
    obtain⟨x,z,rfl,j,l⟩:=n.two
    obtain⟨p,f,h,m,q⟩:=yh u hi c hk j l (d9 o)
    exact call_meetsIn PySem.F.slot_dict_get m.typeIs PySem.F.entry_dict_get (PySem.F.args_dict_get_3 _ _ _) (meets_dict_get_default (c_ J w) a h (u.mK t.sys c) _) ⟨f,m,q⟩
   ·ext e
  ·ext e
 ·ext e
theorem zg{t:Nat}{d:List V}{ys:List Value}(aa:Gd J w T K H)(ab:Sg J w H F L X G W s.heap)
 (e:cf T (.old t) 3 d G=some r)(B:All2 (VR X) d ys)(P:K1 J w H F L X W s D (λX v y=>VR X v y) r Q E):wpAny (model J w) A (call (.builtin "tuple.index") (.ref t::ys)) Q E s:=by
 change(match T.bO t with|some xs=>gF xs d G|.none=>.none)=some r at e
 split at e
 ·rename_i xs x
  unfold gF at e
  split at e
  ·rename_i k
   split at e
   ·rename_i l
    obtain⟨j,g,rfl⟩:=map_some e
    obtain⟨_,rfl,p⟩:=B.one
    have l:=d8.mp l
    obtain⟨i,m,o,a⟩:=aa.bO _ _ x
    have a:=a.mono λ_ _ z=>VR.pre (hO X) z
    have l1:xs.length=i.size:=by simpa using a.length
    obtain⟨bs,n,f⟩:=Option.bind_eq_some_iff.mp g
    obtain⟨N,O⟩:=pG p n a
    rw[N] at f
    obtain⟨q,R,q2⟩:=s5 f
    have h:j<i.size:=by simpa using q
    exact call_meets PySem.F.slot_tuple_index ⟨_,ab.keep _ _ o,rfl⟩ PySem.F.entry_tuple_index (PySem.F.args_tuple_index_2 _ _)
     (yi t i m _ (λz=>gi z _) (λz M=>O z (Array.mem_toList_iff.mpr M)) j h (by simpa using R) (λc u b=>(show gi i[c] _=gi i.toList[c] _ from by simp).trans (q2 c (by simpa using u) b)))
     ⟨ab.keep _ _ o,okN P ab ⟨_,rfl⟩ _⟩
   ·ext e
  ·ext e
 ·ext e
theorem zh{v:V}{x:Value}(c:Gd J w T K H)(d:Sg J w H F L X G W s.heap)(e:iZ v G=some r)(a:VR X v x)
 (k:K1 J w H F L X W s D (λX v y=>VR X v y) r Q E):wpAny (model J w) A (call (.builtin "len") [x]) Q E s:=by
 cases v<;>first|exact Mi.nos e|skip
 case ref i=>
  unfold iZ at e
  dsimp only at e
  generalize b:G.get i=zz at e
  cases zz with
  |none=>exact Mi.nos e
  |some o=>
   cases o<;>first|exact Mi.nos e|skip
   all_goals
    dsimp only at e
    split at e
    case isFalse=>exact Mi.nos e
    rename_i h
    have h:=Nat.le_of_lt (d8.mp h)
    obtain rfl:=Option.some.inj e
   ·exact yj d b h a (d9 k)
   ·exact yk d b h a (d9 k)
   ·exact yl c d b h a (d9 k)
theorem zi{v:V}{x:Value}(b:Sg J w H F L X G W s.heap)(e:iw v G=some r)(h:VR X v x)
 (k:K1 J w H F L X W s D (λX v y=>VR X v y) r Q E):wpAny (model J w) A (call (.type "list") [x]) Q E s:=by
 cases v<;>first|exact Mi.nos e|skip
 case ref i=>
  unfold iw at e
  dsimp only at e
  generalize a:G.get i=zz at e
  cases zz with
  |none=>exact Mi.nos e
  |some o=>
   cases o<;>first|exact Mi.nos e|skip
   dsimp only at e
   split at e
   case isFalse=>exact Mi.nos e
   rename_i l
   obtain rfl:=Option.some.inj e
   exact yn b a (Nat.le_of_lt (d8.mp l)) h (d9 k)
theorem zj{v:V}{x:Value}(b:Gd J w T K H)(c:Sg J w H F L X G W s.heap)(e:ix v G=some r)(h:VR X v x)
 (k:K1 J w H F L X W s D (λX v y=>VR X v y) r Q E):wpAny (model J w) A (call (.type "dict") [x]) Q E s:=by
 cases v<;>first|exact Mi.nos e|skip
 case ref i=>
  unfold ix at e
  dsimp only at e
  generalize a:G.get i=zz at e
  cases zz with
  |none=>exact Mi.nos e
  |some o=>
   cases o<;>first|exact Mi.nos e|skip
   dsimp only at e
   split at e
   case isFalse=>exact Mi.nos e
   rename_i l
   obtain rfl:=Option.some.inj e
   exact yo b c a (Nat.le_of_lt (d8.mp l)) h (d9 k)
theorem zk{f:V}{a:List V}{y:Value}{ys:List Value}(m:iG K T)(l:Gd J w T K H)(o:Sg J w H F L X G W s.heap)(e:cF T f a G=some r)(g:VR X f y)(d:All2 (VR X) a ys)
 (k:K1 J w H F L X W s D (λX v y=>VR X v y) r Q E):wpAny (model J w) A (call y ys) Q E s:=by
 cases f<;>first|exact Mi.nos e|skip
 case bi n=>
  obtain rfl:=g
  cases n with
  |zero=>
   cases a with
   |nil=>exact Mi.nos e
   |cons v a=>cases a with
    |cons=>exact Mi.nos e
    |nil=>
     obtain⟨p,rfl,h⟩:=d.one
     exact zh l o e h k
  |succ n=>cases n with
   |zero=>
    cases a with
    |nil=>exact Mi.nos e
    |cons v a=>cases a with
     |cons=>exact Mi.nos e
     |nil=>
      obtain⟨p,rfl,h⟩:=d.one
      cases v<;>first|exact Mi.nos e|skip
      obtain rfl:=Option.some.inj e
      exact ym o h (d9 k)
   |succ n=>cases n with
    |succ=>exact Mi.nos e
    |zero=>
     cases a with
     |nil=>exact Mi.nos e
     |cons v a=>cases a with
      |nil=>exact Mi.nos e
      |cons c a=>cases a with
       |cons=>exact Mi.nos e
       |nil=>
        obtain⟨p,q,rfl,h,j⟩:=d.two
        obtain⟨b,i,rfl⟩:=map_some e
        exact yw m l o i h j λt=>okN k o rfl t
 case ty n=>
  obtain rfl:=g
  cases n with
  |zero=>
   cases a with
   |nil=>exact Mi.nos e
   |cons v a=>cases a with
    |cons=>exact Mi.nos e
    |nil=>
     obtain⟨p,rfl,h⟩:=d.one
     exact zi o e h k
  |succ n=>cases n with
   |succ=>exact Mi.nos e
   |zero=>
    cases a with
    |nil=>exact Mi.nos e
    |cons v a=>cases a with
     |cons=>exact Mi.nos e
     |nil=>
      obtain⟨p,rfl,h⟩:=d.one
      exact zj l o e h k
theorem s9{pos:Pos}{s:List Expr}(h:s.all notStar=true):(backTo pos (starEach s Z)).any (·.1)=false:=by
 induction s with
 |nil=>rfl
 |cons a r i=>
  obtain⟨b,c⟩:=Bool.and_eq_true_iff.mp h
  rw[iI b]
  show(false||(backTo pos (starEach r Z)).any (·.1))=false
  rw[i c];rfl
theorem zl{p:Pos}{f:Value}{Q:Args->Shared->Prop}{b:List Expr}(t:b.all notStar=true)(h:wpAny (model J w) A (spliced (backTo p (starEach b Z))) (λv c=>Q ⟨v,[]⟩ c) E s):
 wpAny (model J w) A (evalArgs f true (backTo p (starEach b Z)) []) Q E s:=by
 cases b with
 |nil=>
  have:wpAny (model J w) A (spliced []) (λv c=>Q ⟨v,[]⟩ c) E s:=h
  unfold evalArgs
  show wpAny _ A (spliced []>>=_) Q E s
  refine wpAny_bind (wpAny_mono this (λv c h'=>?_) λd e x=>x)
  refine wpAny_bind (wpAny_pure ?_)
  refine wpAny_holding ?_
  exact wpAny_bind (wpAny_pure (wpAny_bind (wpAny_pure (wpAny_pure h'))))
 |cons a r=>
  rw[iI (Bool.and_eq_true_iff.mp t).1] at h⊢
  exact evalArgs_plain h
noncomputable def pR(K:Frag)(T:Tb):Prop:=∀a,((T.fn a).isSome=true\/(T.cls a).isSome=true)->keepIn K (.ref a)=true
theorem mR{v:Value}(h:∀a,v≠.ref a)(p:Heap):∃k,(k=Keeper.frame\/k=Keeper.machine\/k=Keeper.boundFrame)/\Looks (model J w) p (keeperOf v) k:=by
 refine⟨.machine,.inr (.inl rfl),?_⟩
 unfold keeperOf
 cases v<;>first|exact absurd rfl (h _)|exact Looks.of_pure rfl
theorem mS{p:Pos}{f:Value}{first:List Value}{a:List Expr}(c:∀h,K.In h->∃k,(k=Keeper.frame\/k=Keeper.machine\/k=Keeper.boundFrame)/\Looks (model J w) h (keeperOf f) k)(t:a.all notStar=true)
 (h:wpAny (model J w) A (spliced (backTo p (starEach a Z))) (λv b=>K.In b.heap/\wpAny (model J w) A (call f (first++v)) Q E b) E s):
 wpAny (model J w) A (callWith p f first (backTo p (starEach a Z)) []) Q E s:=
 callWith_of (P:=λh=>K.In h) (by rw[s9 t];rfl) c (zl t h)
theorem pT{f:Expr}{s:List Expr}{p:Pos}(h:∀o a q,f≠.Attribute o a q):eval (.Call f s [] p) Z=(do callWith p (←eval f Z) [] (backTo p (starEach s Z)) (backToKw p (keywordEach [] Z))):=by
 cases f<;>first|rfl|exact absurd rfl (h _ _ _)
theorem lu{s:List Expr}(h:ee s=true):s.all notStar=true/\s.length<30:=by
 unfold ee at h
 obtain⟨a,b⟩:=Bool.and_eq_true_iff.mp h
 exact⟨a,Nat.ble_eq.mp b⟩
theorem pU{p:Pos}{s:List Expr}(h:ee s=true):methodCallForm (s.length+([]:List Keyword).length) (backTo p (starEach s Z)) (backToKw p (keywordEach [] Z))=true:=by
 obtain⟨a,b⟩:=lu h
 unfold methodCallForm
 have c:(backTo p (starEach s Z)).all (λx=>!x.1)=true:=by
  have:=s9 (Z:=Z) (pos:=p) a
  rw[List.all_eq_true]
  intro x d
  rw[List.any_eq_false] at this
  simpa using this x d
 rw[c]
 exact decide_eq_true b
theorem s_{o:Expr}{a:Str}{g p:Pos}{i:List Expr}(k:ee i=true)(j:fo o=true)(l:Nat.beq g.endLine p.line=true)
 (h:wpAny (model J w) A (eval o Z) (λv b=>∀m,wpAny (model J w) A (getMethod v a m) (λx c=>wpAny (model J w) A (callWith p x.1 x.2 (backTo p (starEach i Z)) []) Q E c) E b) E s):
 wpAny (model J w) A (eval (.Call (.Attribute o a g) i [] p) Z) Q E s:=by
 rw[arm_eval_Call,pM j]
 refine wpAny_bind (wpAny_mono h (λv b C=>?_) λn q e=>e)
 refine wpAny_bind (wpAny_standAt ?_)
 have d:methodCallPos true o Z g p=pure p:=by unfold methodCallPos;rw[show(g.endLine==p.line)=true from by rw[beq_iff_eq];exact Nat.eq_of_beq_eq_true l];simp
 unfold methodCall
 rw[pU k]
 refine wpAny_bind (wpAny_holding (wpAny_mono (C _) (λx c f=>?_) λn q e=>e))
 exact wpAny_bind (wpAny_of_eq d f)
end
open PySem.SeqAt PySem.MeetsSeq
section
variable(J:Program)(w:World)(H:Heap)(D:Value)
noncomputable def lx(n:Nat)(f:Nat->List V->Hp->Option (R V)):Prop:=
 ∀{A:Around} {F:List Env} {L:Addr} {X:List Addr} {W:List (Str×V)} {G:Hp} {s:Shared} {a:Nat} {b:List V} {ys:List Value} {r:R V} {Q:Value->Shared->Prop} {E:Value->Shared->Prop},
  Rm A F n->Sg J w H F L X G W s.heap->f a b G=some r->All2 (VR X) b ys->K1 J w H F L X W s D (λX v y=>VR X v y) r Q E->codeAny (model J w) A (.call (.ref a) ⟨ys,[]⟩) (wants Q E) s
noncomputable def pV(n:Nat)(f:V->List V->Hp->Option (R V)):Prop:=
 ∀{A:Around} {F:List Env} {L:Addr} {X:List Addr} {W:List (Str×V)} {G:Hp} {s:Shared} {v:V} {y:Value} {a:List V} {ys:List Value} {r:R V} {Q:Value->Shared->Prop} {E:Value->Shared->Prop},
  Rm A F n->Sg J w H F L X G W s.heap->f v a G=some r->VR X v y->All2 (VR X) a ys->K1 J w H F L X W s D (λX v y=>VR X v y) r Q E->wpAny (model J w) A (call y ys) Q E s
end
section
variable{J:Program}{w:World}{H:Heap}{F:List Env}{L:Addr}{X:List Addr}{G I:Hp}{W:List (Str×V)}
variable{A:Around}{E:Value->Shared->Prop}{s:Shared}{Z:Env}{Y:En}{T:Tb}{K:Frag}{D:Value}{n:Nat}{Fn:Fs}{r:R V}{Q:Value->Shared->Prop}
theorem zm{j d:Nat}{a:Str}{f:Nat}(e:dZ T j d a G=some f):∃s k,G.get d=some (.dict s)/\T.cls j=some k/\(a,f)∈k.meths/\cb (.str a) s=.none:=by
 unfold dZ at e
 generalize c:G.get d=zz at e
 cases zz with
 |none=>exact Mi.nos e
 |some o=>
  cases o<;>first|exact Mi.nos e|skip
  rename_i s
  dsimp only at e
  generalize i:T.cls j=zz at e
  cases zz with
  |none=>exact Mi.nos e
  |some k=>
   dsimp only at e
   generalize h:lk a k.meths=zz at e
   cases zz with
   |none=>exact Mi.nos e
   |some b=>
    dsimp only at e
    generalize g:cb (.str a) s=zz at e
    cases zz with
    |some=>exact Mi.nos e
    |none=>
     obtain rfl:=Option.some.inj e
     rw[dr] at h
     exact⟨s,k,rfl,rfl,mem_of_lookup h,g⟩
theorem ly{id:String}(h:Heap)(a:K.In h):∃k,(k=Keeper.frame\/k=Keeper.machine\/k=Keeper.boundFrame)/\Looks (model J w) h (keeperOf (.builtin id)) k:=mR (λb q=>by ext q) h
theorem args_call{p:Pos}{f:Value}{first:List Value}{d:List Expr}{g:List V->Hp->Option (R V)}(B:Gd J w T K H)(x:ez J w H D n Fn.bL)(b:Rm A F (n+1))(M:Sg J w H F L X G Y.loc s.heap)(N:bG Z Y F L X)
 (l:d.all notStar=true)(u:∀h,K.In h->∃k,(k=Keeper.frame\/k=Keeper.machine\/k=Keeper.boundFrame)/\Looks (model J w) h (keeperOf f) k)(e:bd (Fn.bL Y d G) g=some r)(k:K1 J w H F L X Y.loc s D (λX v y=>VR X v y) r Q E)
 (q:∀{c:List V} {I:Hp} {a:List Addr} {h':Heap} {tk:Nat} {ys:List Value},g c I=some r->X<+:a->Sg J w H F L a I Y.loc h'->All2 (VR a) c ys->K1 J w H F L a Y.loc {s with heap:=h',toks:=tk} D (λX v y=>VR X v y) r Q E->
   wpAny (model J w) A (call f (first++ys)) Q E {s with heap:=h',toks:=tk}):wpAny (model J w) A (callWith p f first (backTo p (starEach d Z)) []) Q E s:=
 mS (K:=K) u l (cI (P:=λX c ys=>All2 (VR X) c ys) e k (λm i=>x (b.le (Nat.le_succ n)) M N l m i) λo t j z i=>⟨B.k.keeps j.keep,q o t.pre j z i⟩)
theorem pW{b:Addr}{h:Heap}{o:Obj}(c:h.get? b=some o)(d:o.dict=none):∀a,Value.ref b=.ref a->∃o,h.get? a=some o/\o.dict=none:=λa q=>by cases q;exact⟨_,c,d⟩
theorem zo{i:Nat}{a:Str}{p:Pos}{d:List Expr}{xs:List V}{y:Value}(aa:Gd J w T K H)(B:ez J w H D n Fn.bL)(R:Rm A F (n+1))(ab:Sg J w H F L X G Y.loc s.heap)(N:bG Z Y F L X)(M:d.all notStar=true)
 (hi:G.get i=some (.list xs))(hy:VR X (.ref i) y)(e:(match f9 a with
   |1=>bd (Fn.bL Y d G) λq G=>cf T (.ref i) 1 q G
   |2=>bd (Fn.bL Y d G) λq G=>cf T (.ref i) 2 q G
   |3=>bd (Fn.bL Y d G) λq G=>cf T (.ref i) 3 q G
   |_=>.none)=some r)(k:K1 J w H F L X Y.loc s D (λX v y=>VR X v y) r Q E)(pl:Sem Bool):
 wpAny (model J w) A (getMethod y a pl) (λO o=>wpAny (model J w) A (callWith p O.1 O.2 (backTo p (starEach d Z)) []) Q E o) E s:=by
 obtain⟨b,t,rfl⟩:=hy
 obtain⟨b',ys,m,h,P,_⟩:=ab.list hi
 rw[t] at h;ext h
 have x:s.TypeIs (.ref b) "list" :=P.isList.typeIs
 have z:=pW P rfl
 have u:=pP (a:=a) rfl
 generalize f9 a=m at e u
 cases m with
 |zero=>exact Mi.nos e
 |succ m=>cases m with
  |zero=>
   rw[u.1 rfl]
   exact getMethod_builtin x PySem.F.plainAttrs_list PySem.F.slot_list_append PySem.F.type_list_append z (args_call aa B R ab N M ly e k λf l c j g=>pQ (s:={s with heap:=_,toks:=_}) c (gg l t) (.inl ⟨rfl,rfl⟩) f j g)
  |succ m=>cases m with
   |zero=>
    rw[u.2.1 rfl]
    exact getMethod_builtin x PySem.F.plainAttrs_list PySem.F.slot_list_pop PySem.F.type_list_pop z (args_call aa B R ab N M ly e k λf l c j g=>pQ (s:={s with heap:=_,toks:=_}) c (gg l t) (.inr (.inl ⟨rfl,rfl⟩)) f j g)
   |succ m=>cases m with
    |zero=>
     rw[u.2.2.1 rfl]
     exact getMethod_builtin x PySem.F.plainAttrs_list PySem.F.slot_list_index PySem.F.type_list_index z (args_call aa B R ab N M ly e k λf l c j g=>pQ (s:={s with heap:=_,toks:=_}) c (gg l t) (.inr (.inr ⟨rfl,rfl⟩)) f j g)
    |succ=>exact Mi.nos e
theorem zp{i af d f:Nat}{a:Str}{p:Pos}{j:List Expr}{y:Value}(ag:Gd J w T K H)(B:∀af o,T.cls af=some o->gN K af o)(hs:ez J w H D n Fn.bL)(P:lx J w H D n Fn.call)(R:Rm A F (n+1))(ai:Sg J w H F L X G Y.loc s.heap)(N:bG Z Y F L X)(st:j.all notStar=true)
 (hi:G.get i=some (.inst af d))(hy:VR X (.ref i) y)(hm:dZ T af d a G=some f)(e:(bd (Fn.bL Y j G) λvs G=>Fn.call f (.ref i::vs) G)=some r)(k:K1 J w H F L X Y.loc s D (λX v y=>VR X v y) r Q E)(pl:Sem Bool):
 wpAny (model J w) A (getMethod y a pl) (λx g=>wpAny (model J w) A (callWith p x.1 x.2 (backTo p (starEach j Z)) []) Q E g) E s:=by
 obtain⟨b,t,rfl⟩:=hy
 obtain⟨es,kc,V,hk,m,hg⟩:=zm hm
 obtain⟨a',da,ox,od,q,aa,ah,ae,ab,rr⟩:=pD ai hi V
 rw[t] at q;ext q
 have O:=B af kc hk
 obtain⟨m1,m2,l⟩:=O.fm _ m
 obtain⟨z,hz,c⟩:=pC (n:=a) rr
 rw[hg] at c
 have c:z=none:=c
 subst c
 refine method_fn (ag.k.keeps ai.keep) ah O.get.1 O.get.2 m1 (beq_iff_eq.mp m2) (by unfold shadowIn;simp[hz]) ?_
 have kp:keepIn K (.ref f)=true:=by
  unfold fnIn at l
  unfold keepIn
  dsimp only
  split at l
  ·rename_i hh;rw[hh]
  ·ext l
 exact args_call ag hs R ai N st (λh aj=>keeps_K kp h aj) e k λM pr u p2 k2=>wpAny_call (P (s:={s with heap:=_,toks:=_}) (R.le (Nat.le_succ n)) u M (.cons ⟨b,gg pr t,rfl⟩ p2) k2)
theorem zq{o:Expr}{a:Str}{ap p:Pos}{O:List Expr}(ah:Gd J w T K H)(TC:∀ag cl,T.cls ag=some cl->gN K ag cl)(hv:cw J w H D n Fn.ev)(x:ez J w H D n Fn.bL)(hc:lx J w H D n Fn.call)
 (R:Rm A F (n+1))(ai:Sg J w H F L X G Y.loc s.heap)(N:bG Z Y F L X)(hf:ee O=true)(h:fo o=true)(hl:Nat.beq ap.endLine p.line=true)
 (e:(bd (Fn.ev Y o G) λv G=>fQ T Fn Y v a O G)=some r)(k:K1 J w H F L X Y.loc s D (λX v y=>VR X v y) r Q E):wpAny (model J w) A (eval (.Call (.Attribute o a ap) O [] p) Z) Q E s:=by
 have B:=(lu hf).1
 refine s_ hf h hl ?_
 refine cI (P:=λX v y=>VR X v y) e k (λe1 g=>hv (R.le (Nat.le_succ n)) ai N e1 g) λ{v I S C tk y} c u S1 z g=>?_
 clear e k hf h hl hv
 intro pl
 have N1:=N.pre u.pre
 clear u N ai
 cases v<;>first|exact Mi.nos c|skip
 case ref i=>
  unfold fQ at c
  dsimp only at c
  generalize hi:I.get i=zz at c
  cases zz with
  |none=>exact Mi.nos c
  |some o=>
   cases o<;>first|exact Mi.nos c|skip
   case inst ag d=>
    dsimp only at c
    generalize hm:dZ T ag d a I=zz at c
    cases zz with
    |none=>exact Mi.nos c
    |some f=>
     exact zp (s:={s with heap:=C,toks:=tk}) ah TC x hc R S1 N1 B hi z hm c g pl
   case list=>exact zo (s:={s with heap:=C,toks:=tk}) ah x R S1 N1 B hi z c g pl
   case dict es=>
    obtain⟨b,h,rfl⟩:=z
    obtain⟨b',af,j,dd,_⟩:=S1.dict hi
    rw[h] at j;ext j
    obtain⟨ob,_,_,l,⟨aa,ab,_⟩,_⟩:=dd
    have q:=pP (a:=a) rfl
    dsimp only at c
    generalize f9 a=m at c q
    by_cases h4:m=4
    ·subst h4
     rw[q.2.2.2 rfl]
     exact getMethod_builtin (s:={s with heap:=C,toks:=tk}) ⟨_,l,aa⟩ PySem.F.plainAttrs_dict PySem.F.slot_dict_get PySem.F.type_dict_get (pW l ab) (args_call (s:={s with heap:=C,toks:=tk}) ah x R S1 N1 B ly c g λV pr M p2 k2=>zf (s:={s with heap:=_,toks:=_}) ah M (gg pr h) V p2 k2)
    ·split at c
     ·exact absurd rfl h4
     ·ext c
 case old t=>
  obtain rfl:=z
  unfold fQ at c
  dsimp only at c
  generalize ht:T.bO t=zz at c
  cases zz with
  |none=>exact Mi.nos c
  |some xs=>
   obtain⟨ae,m,l,_⟩:=ah.bO _ _ ht
   have q:=pP (a:=a) rfl
   dsimp only at c
   generalize f9 a=m at c q
   by_cases h3:m=3
   ·subst h3
    rw[q.2.2.1 rfl]
    exact getMethod_builtin (s:={s with heap:=C,toks:=tk}) ⟨_,S1.keep _ _ l,rfl⟩ PySem.F.plainAttrs_tuple PySem.F.slot_tuple_index PySem.F.type_tuple_index (pW (S1.keep _ _ l) rfl) (args_call (s:={s with heap:=C,toks:=tk}) ah x R S1 N1 B ly c g λV pr M p2 k2=>zg (s:={s with heap:=_,toks:=_}) ah M V p2 k2)
   ·split at c
    ·exact absurd rfl h3
    ·ext c
theorem zr{f:Expr}{p:Pos}{j:List Expr}(aa:Gd J w T K H)(u:pR K T)(m:cw J w H D n Fn.ev)(hs:ez J w H D n Fn.bL)(M:pV J w H D n Fn.dJ)
 (R:Rm A F (n+1))(ab:Sg J w H F L X G Y.loc s.heap)(N:bG Z Y F L X)(O:ee j=true)(b:∀o a q,f≠.Attribute o a q)
 (e:(bd (Fn.ev Y f G) λl G=>if callable T l then bd (Fn.bL Y j G) λvs G=>Fn.dJ l vs G else .none)=some r)(k:K1 J w H F L X Y.loc s D (λX v y=>VR X v y) r Q E):wpAny (model J w) A (eval (.Call f j [] p) Z) Q E s:=by
 rw[pT b]
 refine wpAny_bind ?_
 refine cI (P:=λX v y=>VR X v y) e k (λz g=>m (R.le (Nat.le_succ n)) ab N z g) λ{v I S C tk y} d t S1 i g=>?_
 clear e k b m
 split at d
 ·rename_i c
  have V:∀h,K.In h->∃k,(k=Keeper.frame\/k=Keeper.machine\/k=Keeper.boundFrame)/\Looks (model J w) h (keeperOf y) k:=by
   clear d g
   cases v<;>first|exact Mi.nft c|skip
   ·obtain rfl:=i;exactλh _=>mR (λ_ q=>by cases q) h
   ·obtain rfl:=i;exactλh _=>mR (λ_ q=>by cases q) h
   ·obtain rfl:=i
    exactλh ae=>keeps_K (u _ (Bool.or_eq_true_iff.mp c)) h ae
  exact args_call (s:={s with heap:=C,toks:=tk}) (first:=[]) aa hs R S1 (N.pre t.pre) (lu O).1 V d g λB pr x p2 k2=>M (s:={s with heap:=_,toks:=_}) (R.le (Nat.le_succ n)) x B (i.pre pr) p2 k2
 ·ext d
variable{loc':List (Str×V)}{h h':Heap}{M:Model}{en':En}
theorem Sg.zt(t:Sg J w H F L X G W h){m:Str->Option Value}(s:Heap.SameBut L h h')(p:h'.Ns L m)(r:LR X loc' m):Sg J w H F L X G loc' h'/\Step X [L] h X h':=by
 have k:∀b,b≠L->h'.get? b=h.get? b:=λb g=>s.2 b g
 have c:∀a∈X,a≠L:=λa d q=>t.b6 (q▸d)
 refine⟨⟨λb o e=>(k b λq=>by rw[q,t.eO] at e;ext e).trans (t.keep b o e),t.off,t.nd,t.len,λa d=>?_,λi o a l f=>?_,t.eO,t.b6,t.above,⟨m,p,r⟩,?_,t.dN⟩,
  ⟨List.prefix_refl _,λa d=>.inl d,λb g=>by rw[List.mem_singleton.mp g];exact t.b6,λb o l f e=>(k b λq=>f (by rw[q];exact .head _)).trans e⟩⟩
 ·obtain⟨j,e⟩:=t.live a d;exact⟨j,(k a (c a d)).trans e⟩
 ·obtain⟨j,e,q⟩:=t.cell i o a l f
  exact⟨j,(k a (c a (List.mem_of_getElem? f))).trans e,q⟩
 ·refine gh t.ff λb g o e n=>?_
  by_cases q:b=L
  ·rw[q];exact eP p
  ·exact⟨o,(k b q).trans e,n⟩
theorem zu{x:Str}{v:V}{y:Value}{m:Str->Option Value}(l:LR X W m)(h:VR X v y):LR X (put x v W) (λz=>if z=x then some y else m z):=λz=>by
 rw[jP]
 by_cases q:z=x
 ·simp only[q,if_true];exact⟨y,rfl,h⟩
 ·simp only[q,if_false];exact l z
theorem bG.jh(N:bG Z Y F L X){l:List (Str×V)}:bG Z ⟨Y.sc,l,Y.bF⟩ F L X:=⟨N.kind,N.names,N.locals,N.glob,N.blt,N.fr,N.cells⟩
theorem td{x:Str}{v:V}(e:bZ Y G x v=some (en',I)):en'.sc=Y.sc/\en'.bF=Y.bF:=by
 rw[jd] at e
 cases h:lk x Y.sc with
 |none=>rw[h] at e;ext e
 |some k=>
  rw[h] at e
  cases k<;>try exact Mi.nos e
  case «local»=>ext e;exact⟨rfl,rfl⟩
  case cell=>
   dsimp only at e
   cases h:lk x Y.bF with
   |none=>rw[h] at e;ext e
   |some i=>
    rw[h] at e
    dsimp only at e
    cases h:G.get i with
    |none=>rw[h] at e;ext e
    |some o=>
     rw[h] at e
     cases o<;>first|exact Mi.nos e|(specialize e;exact⟨rfl,rfl⟩)
theorem ji{x:Str}{v:V}{y:Value}{Q:Unit->Shared->Prop}(ab:Sg J w H F L X G Y.loc s.heap)(N:bG Z Y F L X)(e:bZ Y G x v=some (en',I))(u:VR X v y)
 (t:∀h' tk,Sg J w H F L X I en'.loc h'->Step X [L] s.heap X h'->bG Z en' F L X->Q () {s with heap:=h',toks:=tk}):wpAny M A (storeName Z x y) Q E s:=by
 rw[jd,dr,dr] at e
 split at e
 ·rename_i hk
  ext e
  obtain⟨m,n,l⟩:=ab.loc
  refine wpAny_storeName_local (by show Z.scope.names.lookup x=_;rw[N.names];exact hk) (N.locals▸n) (λh' r d=>?_) (by rw[N.kind];rfl)
  rw[N.locals] at r d
  obtain⟨f,P⟩:=ab.zt d r (zu (x:=x) l u)
  exact t h' _ f P N.jh
 ·rename_i hk
  split at e
  ·rename_i i hi
   split at e
   ·rename_i z h
    ext e
    obtain⟨a,p,O⟩:=N.cells x i hk hi
    obtain⟨a',ob,c,T,B,R,_⟩:=ab.get h
    rw[p] at c;ext c
    refine wpAny_storeName_cell N.kind (by show Z.scope.names.lookup x=_;rw[N.names];exact hk) O ⟨ob,T,R⟩ λh' k d=>?_
    obtain⟨aa,j,g⟩:=k
    obtain⟨f,P⟩:=ab.upd (o:=.cell (some v)) p d j ⟨_,g,y,rfl,u⟩
    exact t h' s.toks f (P.weaken (λ_ q=>nomatch q) λb K=>by rw[List.mem_singleton.mp K];exact ab.b6) N
   ·ext e
  ·ext e
 ·ext e
theorem te{Q:Unit->Shared->Prop}{xs:List (Str×V)}{ys:List (Str×Value)}(g:All2 (λp q=>p.1=q.1/\VR X p.2 q.2) xs ys):
 ∀{Y:En} {G:Hp} {s:Shared},Sg J w H F L X G Y.loc s.heap->bG Z Y F L X->cV xs Y G=some (en',I)->(∀h' tk,Sg J w H F L X I en'.loc h'->Step X [L] s.heap X h'->bG Z en' F L X->Q () {s with heap:=h',toks:=tk})->
 wpAny M A (forIn ys PUnit.unit λ(p:Str×Value) r=>do storeName Z p.1 p.2;pure (.yield ⟨⟩)) (λr=>Q ()) E s:=by
 induction g with
 |nil=>
  intro Y G s o N e a
  ext e
  rw[List.forIn_nil]
  exact wpAny_pure (a s.heap s.toks o (Step.refl.weaken (λr q=>nomatch q) λb j=>by rw[List.mem_singleton.mp j];exact o.b6) N)
 |cons c m k=>
  intro Y G s o N e a
  unfold cV at e
  split at e
  ·rename_i n l i
   rw[List.forIn_cons]
   rw[←c.1]
   refine wpAny_bind (wpAny_bind (ji o N i c.2 λC t₁ S1 P N1=>?_))
   refine wpAny_pure ?_
   exact k (s:={s with heap:=C,toks:=t₁}) S1 N1 e λh t f d N2=>a h t f (P.trans d) N2
  ·ext e
variable{B:Heap}{e:Addr}
theorem zv{Q:Unit->Shared->Prop}(f:A.frames=some (Z::F))(a:Z.frame=some L)(T:fS D B (Z::F) e s.heap)
 (c:∀h',fS D B F e h'->s.heap.UpToSlots h'->Q () {s with heap:=h'}):wpAny M A (leaving Z (.ref e)) Q E s:=by
 obtain⟨g,k,i,b,T⟩:=T
 rcases T with⟨R,V,H,w,z,r,t⟩|T|⟨v,P,o,q,h,T⟩
 ·subst w
  refine wpAny_leaving_firstW f i a H g k z t r λh' u=>?_
  obtain⟨x,⟨_,_,j⟩,N,O⟩:=u
  exact c h' ⟨x,k,j,b,.inr (.inl N)⟩ O
 ·refine wpAny_leaves_onW f a ⟨g,k,i,T⟩ λh' x j=>?_
  obtain⟨y,m,n,p⟩:=x
  exact c h' ⟨y,m,n,b,.inr (.inl p)⟩ j
 ·ext q
  rw[a] at h;ext h
  unfold leaving
  refine wpAny_bind (wpAny_noteFrame_againW a T ?_)
  refine wpAny_landsW (l:=Z::F) ⟨g,k,i,T⟩ λh' d K=>?_
  obtain⟨y,m,⟨_,_,n⟩,p⟩:=d
  exact c h' ⟨y,m,n,b,.inr (.inl p)⟩ K
theorem lz{Q:Unit->Shared->Prop}(r:A.frames=some (Z::F))(h:Z.frame=some L)(T:fS D B (Z::F) e s.heap)
 (b:∀h',(∃a,Heap.HeldW B (Z::F) e D a L h')->s.heap.UpToSlots h'->Q () {s with heap:=h'}):wpAny M A (noteFrame (.ref e) Z) Q E s:=by
 obtain⟨c,k,d,a,T⟩:=T
 rcases T with⟨w,y,l,p,j,m,i⟩|T|⟨n,v,o,q,f,T⟩
 ·subst p
  unfold noteFrame
  simp only[h]
  refine wpAny_bind (wpAny_field l j i ?_)
  rw[if_neg (by decide)]
  refine wpAny_entryW r d h l c k j (Array.getElem?_eq_some_iff.mp i).1 m λh' N=>?_
  obtain⟨x,g,t,u⟩:=N
  exact b h' ⟨a,x,k,g,t⟩ u
 ·refine wpAny_looks_onW r h ⟨c,k,d,T⟩ λh' x g=>b h' ⟨a,x⟩ g
 ·ext q
  rw[h] at f;ext f
  refine wpAny_noteFrame_againW h T ?_
  exact b s.heap ⟨a,c,k,d,T⟩ (Heap.UpToSlots.refl _)
theorem iJ{a:Value}(f:Z.frame=some L){h:Heap}(x:Heap.HeldW B (Z::F) e D a L h):fS D B (Z::F) e h:=by
 obtain⟨k,b,c,T⟩:=x
 exact⟨k,b,c,a,.inr (.inr ⟨Z,L,F,rfl,f,T⟩)⟩
theorem mT{a:Value}{h:Heap}(x:Heap.FlyingW B F e D a h):fS D B F e h:=by
 obtain⟨k,b,c,T⟩:=x
 exact⟨k,b,c,a,.inr (.inl T)⟩
end
end Sd
namespace Sd
open PySem PySem.W PyProof.Rows PySem.Calls Mi
theorem filterMap_congr{b d:Type}{f g:b->Option d}{l:List b}(h:∀x∈l,f x=g x):l.filterMap f=l.filterMap g:=by
 induction l with
 |nil=>rfl
 |cons a r i=>rw[List.filterMap_cons,List.filterMap_cons,h a (.head _),i λx c=>h x (.tail _ c)]
theorem zw{ps:List Str}{ys:List Value}(a:ps.Nodup)(l:ps.length=ys.length):ps.filterMap (λn=>((ps.zip ys).lookup n).map (n,·))=ps.zip ys:=by
 induction ps generalizing ys with
 |nil=>rfl
 |cons p ps i=>cases ys with
  |nil=>exact Nat.noConfusion l
  |cons y ys=>
   obtain⟨b,c⟩:=List.nodup_cons.mp a
   rw[List.zip_cons_cons,List.filterMap_cons,List.lookup_cons,beq_self_eq_true]
   refine congrArg (List.cons (p,y)) ((filterMap_congr (g:=λn=>((ps.zip ys).lookup n).map (n,·)) λn m=>?_).trans (i c (Nat.succ.inj l)))
   have h:n≠p:=λq=>b (q▸m)
   rw[List.lookup_cons,beq_eq_false_iff_ne.mpr h]
theorem zx:∀{ps:List Str} {ys:List Value},ps.length=ys.length->∀n∈ps,((ps.zip ys).lookup n).isSome=true:=by
 intro ps
 induction ps with
 |nil=>intro a b n h;cases h
 |cons p ps i=>intro ys l n h;cases ys with
  |nil=>cases l
  |cons y ys=>
   rw[List.zip_cons_cons,List.lookup_cons]
   cases q:n==p with
   |true=>rfl
   |false=>
    rcases List.mem_cons.mp h with k|k
    ·rw[k,beq_self_eq_true] at q;ext q
    ·exact i (Nat.succ.inj l) n k
theorem tg{b a c:Type}{L:List b}(h:L=[]){s:a}{f:b->a->Sem (ForInStep a)}{g:a->Sem c}{r:Sem c}(k:g s=r):(forIn L s f>>=g)=r:=by
 subst h;exact k
theorem zy{f:FuncData}{ys:List Value}{ps:List Str}(d:f.params.posonlyargs=[])(g:f.params.kwonlyargs=[])(i:f.params.vararg=none)(k:f.params.kwarg=none)(b:f.params.args.map (·.arg)=ps)
 (m:f.defaults=.none)(p:ps.Nodup)(l:ps.length=ys.length):bindArgs f ⟨ys,[]⟩=pure (ps.zip ys):=by
 have h:(ps.filter λn=>((ps.zip ys).lookup n).isNone)=[]:=by
  rw[List.filter_eq_nil_iff]
  intro n y
  have:=zx l n y
  cases q:(ps.zip ys).lookup n<;>rw[q] at this<;>simp at this⊢
 have A:=zw p l
 clear p
 obtain⟨O,u,⟨Q,a,R,M,L,N,I⟩,o,s,K,r,H,C,t,P,D,c,F,E⟩:=f
 dsimp only at d g i k b m
 subst d g i k m
 have v:¬((decide (ys.length>(a.map (·.arg)).length)&&true)=true):=by
  rw[b,l];simp
 refine Eq.trans (if_neg v) ?_
 have e:∀n,(List.drop (0-n) ([]:List Value))=[]:=λn=>List.drop_nil
 have w:¬((!((a.map (·.arg)).take ((a.map (·.arg)).length-(List.drop (0-(a.map (·.arg)).length) ([]:List Value)).length)|>.filter λn=>(((a.map (·.arg)).zip ys).lookup n).isNone).isEmpty)=true):=by
  rw[e,b];simp[h]
 refine Eq.trans (if_neg w) ?_
 have x:((a.map (·.arg)).drop ((a.map (·.arg)).length-(List.drop (0-(a.map (·.arg)).length) ([]:List Value)).length)).zip (List.drop (0-(a.map (·.arg)).length) ([]:List Value))=[]:=by
  rw[e,List.zip_nil_right]
 refine tg x ?_
 refine tg rfl ?_
 refine Eq.trans (if_neg Bool.false_ne_true) ?_
 exact congrArg pure ((congrArg (List.filterMap _) (List.append_nil _)).trans (b▸A))
inductive ti(K:Frag)(a:Nat)(f:Fn):Prop
 |mk (oc:Value) (od:Option Addr) (osl:Array (Option Value)) (name qual:Str) (params:Arguments) (dV kV doc pm:Value) (an:Option Addr) (cdv ct:Value)
  (hK:K.lookup a=some ⟨oc,od,.func (fnX name qual params f.body f.sc [] dV kV doc pm an cdv ct),osl⟩) (hcode:codeIn K cdv qual=true)
  (hbind:∀(s:Shared) (ys:List Value),K.In s.heap->ys.length<=f.ps.length->f.ps.length<=ys.length+f.dflt.length->
    ∃dys,All2 (VR []) f.dflt dys/\BindsTo s (fnX name qual params f.body f.sc [] dV kV doc pm an cdv ct) ⟨ys,[]⟩ (f.ps.zip (ys++dys.drop (f.dflt.length-(f.ps.length-ys.length))))):ti K a f
structure fT(K:Frag)(a:Nat)(f:Fn):Prop where
 ex:ti K a f
 co:f.sc.isCoroutine=false
 gen:f.sc.isGenerator=false
 kind:f.sc.kind=.function
section
variable{J:Program}{w:World}{H:Heap}{F:List Env}{L:Addr}{X:List Addr}{G z:Hp}{loc loc':List (Str×V)}{h B:Heap}
variable{M:Model}{A:Around}{E:Value->Shared->Prop}{s:Shared}{Z:Env}{Y en':En}{T:Tb}{K:Frag}{cls:Value}{n:Nat}{Fn:Fs}{r:R V}
theorem pY{a b:Addr}{l:List Addr}(h:b≠a)(c:b∉l):b∉a::l:=λd=>(List.mem_cons.mp d).elim h c
noncomputable def CR(X:List Addr)(p:Str×Nat)(q:Str×Addr):Prop:=p.1=q.1/\X[p.2]? =some q.2
theorem tj(n:List (Str×NameKind)){X:List Addr}{G:Hp}{h:Heap}{cs:List (Str×Nat)}{acc:List (Str×Addr)}(S:Sg J w H F L X G loc h)(a:All2 (CR X) cs acc):
 ∃j,Sg J w H F L j (gH n G cs).1 loc (pushCells h n)/\Step X [] h j (pushCells h n)/\All2 (CR j) (gH n G cs).2 (cellsFrom h.objs.size n acc):=by
 induction n generalizing X G h cs acc with
 |nil=>exact⟨X,S,.refl,a⟩
 |cons p r i=>
  obtain⟨m,d⟩:=p
  unfold pushCells cellsFrom
  cases b:d==.cell
  ·have:d≠.cell:=λq=>by rw[q] at b;ext b
   clear b
   simp only[Bool.false_eq_true,if_false]
   cases d<;>first|exact absurd rfl this|exact i S a
  ·have:d=.cell:=beq_iff_eq.mp b
   clear b
   subst this
   simp only[if_true]
   obtain⟨S1,P⟩:=S.push (o:=.cell .none) (ob:={cls:=.type "cell",data:=.cell none}) rfl ⟨_,rfl,rfl⟩
   obtain⟨j,f,e,c⟩:=i (cs:=(m,G.length)::cs) (acc:=(m,h.objs.size)::acc) S1 (.cons ⟨rfl,by rw[←S.len];simp⟩ (a.mono λp q k=>⟨k.1,gg P.pre k.2⟩))
   rw[Heap.size_push] at c
   exact⟨j,f,P.trans e,c⟩
theorem tl{X:List Addr}{cs:List (Str×Nat)}{acc:List (Str×Addr)}(r:All2 (CR X) cs acc)(x i)(e:cs.lookup x=some i):∃a,X[i]? =some a/\acc.lookup x=some a:=by
 induction r with
 |nil=>exact Mi.nos e
 |@cons p q cs acc h l f=>
  obtain⟨b,m⟩:=p
  obtain⟨g,k⟩:=q
  obtain⟨c,d⟩:=h
  obtain rfl:b=g:=c
  rw[List.lookup_cons] at e⊢
  cases q:x==b with
  |true=>rw[q] at e;obtain rfl:=Option.some.inj e;exact⟨k,d,rfl⟩
  |false=>rw[q] at e;exact f e
theorem Sg.frame(S:Sg J w H F L X G loc h){env':Env}(g:env'.frame=some h.objs.size)(u:env'.scope.kind=.function):
 Sg J w H (env'::F) h.objs.size X G [] (h.push {cls:=.type "frame",data:=.dict #[]})/\Step X [] h X (h.push {cls:=.type "frame",data:=.dict #[]}):=by
 have p:∀b o,h.get? b=some o->(h.push {cls:=.type "frame",data:=.dict #[]}).get? b=some o:=λb o e=>Heap.get?_push_of_some _ e
 have c:H.get? h.objs.size=none:=by
  cases q:H.get? h.objs.size with
  |none=>rfl
  |some o=>exact absurd (Heap.lt_size (S.keep _ _ q)) (Nat.lt_irrefl _)
 have l:L<h.objs.size:=let⟨_,n,_⟩:=S.loc;n.lt
 have d:h.objs.size∉X:=λq=>by
  obtain⟨m,e⟩:=S.live _ q
  clear q
  exact absurd (Heap.lt_size e) (Nat.lt_irrefl _)
 refine⟨⟨λb o e=>p b o (S.keep b o e),S.off,S.nd,S.len,λa f=>(let⟨o,e⟩:=S.live a f;⟨o,p a o e⟩),λi o a s t=>(let⟨m,k,r⟩:=S.cell i o a s t;⟨m,p _ _ k,r⟩),c,d,
  Nat.le_of_lt (Nat.lt_of_le_of_lt S.above l),⟨_,Heap.Ns.new h (.type "frame"),λx=>trivial⟩,?_,?_⟩,⟨List.prefix_refl _,λa f=>.inl f,(λv h=>nomatch h),λb o v y e=>p b o e⟩⟩
 ·exact .cons (by rw[u];decide) g (Heap.Ns.new h (.type "frame")) c (gh S.ff λa v o e n=>⟨o,p a o e,n⟩)
 ·intro a f
  rw[List.filterMap_cons,g] at f
  rcases List.mem_cons.mp f with q|q
  ·rw[q];exact d
  ·exact S.dN a q
theorem zA{v:Env}{d:Addr}{ρ₁ j:List Addr}{c:Heap}{loc':List (Str×V)}(S:Sg J w H F L X G loc h)(hf:v.frame=some d)(t:h.get? d=none)(C:Step X [d] h ρ₁ c)
 (y:bV (v::F) d ρ₁ c j B)(g:Sg J w H (v::F) d j z loc' B):bV F L X h j B/\Sg J w H F L j z loc B:=by
 have f:b7 (v::F)=d::b7 F:=by show(v::F).filterMap _=_;rw[List.filterMap_cons,hf]
 have I:∀b o,b∉X->h.get? b=some o->b≠d/\b∉ρ₁/\c.get? b=some o:=λb o n e=>by
  have O:b≠d:=λq=>by rw[q,t] at e;ext e
  refine⟨O,λhb=>?_,C.keep b o n (λq=>O (List.mem_singleton.mp q)) e⟩
  rcases C.new b hb with k|k
  ·exact n k
  ·rw[k] at e;ext e
 have N:∀b o,b∉X->h.get? b=some o->∃P,B.get? b=some {o with slots:=P}:=λb o n e=>by
  obtain⟨p,s,i⟩:=I b o n e
  clear e
  by_cases q:b∈b7 F
  ·exact y.gk b o s p (by rw[f];exact .tail _ q) i
  ·exact⟨o.slots,y.keep b o s p (by rw[f];exact pY p q) i⟩
 have u:=C.pre.trans y.pre
 have A:∀a∈j,a∈X\/h.get? a=none:=λa E=>by
  by_cases q:a∈X
  ·exact .inl q
  ·refine .inr ?_
   cases e:h.get? a with
   |none=>rfl
   |some o=>
    obtain⟨_,s,i⟩:=I a o q e
    clear e
    rcases y.new a E with k|k
    ·exact absurd k s
    ·rw[k] at i;ext i
 obtain⟨m,n,l⟩:=S.loc
 have K:B.Ns L m:=by
  obtain⟨o,R,Q,ho,hd,r⟩:=n
  obtain⟨P,e⟩:=N L o S.b6 ho
  exact⟨_,R,Q,e,hd,r⟩
 refine⟨⟨u,A,λb o D T M e=>?_,λb o D T M e=>N b o D e⟩,⟨g.keep,g.off,g.nd,g.len,g.live,g.cell,S.eO,λW=>?_,S.above,⟨m,K,λx=>(l x).pre u⟩,?_,λa E=>g.dN a ?_⟩⟩
 ·obtain⟨p,s,i⟩:=I b o D e
  clear e
  exact y.keep b o s p (by rw[f];exact pY p M) i
 ·rcases A L W with k|k
  ·exact S.b6 k
  ·obtain⟨o,e,_⟩:=eP n;rw[k] at e;ext e
 ·obtain⟨_,_,r⟩:=g.ff;exact r
 ·show a∈b7 (v::F)
  rw[f];exact .tail _ E
theorem zB{v:Env}{f:Addr}{ρ₁ j:List Addr}{h'':Heap}{c:Shared}{loc':List (Str×V)}{e:Addr}(S:Sg J w H F L X G loc s.heap)(hf:v.frame=some f)(y:s.heap.get? f=none)(N:Step X [f] s.heap ρ₁ c.heap)
 (af:cW J w H (v::F) f ρ₁ c cls z loc' j B e)
 (hT:∃ae,H.StaysIn ae/\fS cls ae F e h''/\(∀(i:Nat) (o:O) (a:Addr),z.get i=some o->j[i]? =some a->∃K,ae.get? a=some K/\OR J w j o K)/\(∀a∈j,∃K,ae.get? a=some K)/\
   ∀b o,b∉ρ₁->b≠f->b∉b7 (v::F)->c.heap.get? b=some o->ae.get? b=some o)(hu:B.UpToSlots h''):
 cW J w H F L X s cls z loc j h'' e:=by
 obtain⟨_,x2,x3,x4,x5,x6,x7,x8,x9,ab⟩:=af
 obtain⟨ae,b1,T2,b3,b4,b5⟩:=hT
 have t:b7 (v::F)=f::b7 F:=by show(v::F).filterMap _=_;rw[List.filterMap_cons,hf]
 have T:∀b o,b∉X->s.heap.get? b=some o->b≠f/\b∉ρ₁/\c.heap.get? b=some o:=λb o n e=>by
  have nl:b≠f:=λq=>by rw[q,y] at e;ext e
  refine⟨nl,λh=>?_,N.keep b o n (λq=>nl (List.mem_singleton.mp q)) e⟩
  rcases N.new b h with k|k
  ·exact n k
  ·rw[k] at e;ext e
 have D:=N.pre.trans x3
 have A:∀a∈j,a∈X\/s.heap.get? a=none:=λa Q=>by
  by_cases q:a∈X
  ·exact .inl q
  ·refine .inr ?_
   cases e:s.heap.get? a with
   |none=>rfl
   |some o=>
    obtain⟨_,C,u⟩:=T a o q e
    clear e
    rcases x4 a Q with k|k
    ·exact absurd k C
    ·rw[k] at u;ext u
 have p:∀b o,b∉X->b∈b7 F->s.heap.get? b=some o->(∀M,o.data≠.fields M)->∃sl,h''.get? b=some {o with slots:=sl}:=λb o n h e nf=>by
  obtain⟨I,C,u⟩:=T b o n e
  clear e
  obtain⟨sl,e2⟩:=x2 b o C I (by rw[t];exact .tail _ h) u
  obtain⟨aa,e3⟩:=hu b _ e2 nf
  exact⟨aa,e3⟩
 have g:∀b∈b7 F,∀o,s.heap.get? b=some o->∀M,o.data≠.fields M:=λb h o e=>by
  obtain⟨_,o',e',nf⟩:=S.ff.mem h
  rw[e] at e';ext e'
  clear e
  exact nf
 have d:∀b o,b∉X->b∉b7 F->s.heap.get? b=some o->ae.get? b=some o:=λb o n h e=>by
  obtain⟨I,C,u⟩:=T b o n e
  clear e
  exact b5 b o C I (by rw[t];exact pY I h) u
 obtain⟨m,n,l⟩:=S.loc
 have W:h''.Ns L m:=by
  obtain⟨o,es,ep,ho,R,r⟩:=n
  by_cases q:L∈b7 F
  ·obtain⟨sl,e⟩:=p L o S.b6 q ho (λM ag=>by rw[R] at ag;ext ag)
   exact⟨_,es,ep,e,R,r⟩
  ·exact⟨_,es,ep,T2.1 _ _ (d L o S.b6 q ho),R,r⟩
 refine⟨⟨ae,b1,T2,b3,b4,λb o P _ E e=>d b o P E e⟩,λb o P _ E e=>p b o P E e (g b E o e),D,A,x5,x6,x7,λhL=>?_,⟨m,W,λx=>(l x).pre D⟩,λa Q=>ab a (by rw[t];exact .tail _ Q)⟩
 rcases A L hL with k|k
 ·exact S.b6 k
 ·obtain⟨o,e,_⟩:=eP n;rw[k] at e;ext e
end
def Top(Z:Env)(F:List Env)(L:Addr):Prop:=∃o,F=Z::o/\Z.frame=some L
section
variable(J:Program)(w:World)(H:Heap)(cls:Value)
def pZ(n:Nat)(f:En->Stmt->Hp->Option RS):Prop:=
 ∀{A:Around} {F:List Env} {L:Addr} {X:List Addr} {Z:Env} {Y:En} {G:Hp} {s:Shared} {t:Stmt} {r:RS} {Q:Flow->Shared->Prop} {E:Value->Shared->Prop},
  Rm A F n->Top Z F L->Sg J w H F L X G Y.loc s.heap->bG Z Y F L X->f Y t G=some r->K2 J w H F L X s cls r Q E->wpAny (model J w) A (exec t Z) Q E s
def fw(n:Nat)(f:En->List Stmt->Hp->Option RS):Prop:=
 ∀{A:Around} {F:List Env} {L:Addr} {X:List Addr} {Z:Env} {Y:En} {G:Hp} {s:Shared} {a:List Stmt} {r:RS} {Q:Flow->Shared->Prop} {E:Value->Shared->Prop},
  Rm A F n->Top Z F L->Sg J w H F L X G Y.loc s.heap->bG Z Y F L X->f Y a G=some r->K2 J w H F L X s cls r Q E->wpAny (model J w) A (execs a Z) Q E s
end
section
variable{J:Program}{w:World}{H:Heap}{F:List Env}{L:Addr}{X:List Addr}{G z:Hp}{loc loc':List (Str×V)}{h B:Heap}
variable{M:Model}{A:Around}{E:Value->Shared->Prop}{s:Shared}{Z:Env}{Y en':En}{T:Tb}{K:Frag}{cls:Value}{n:Nat}{Fn:Fs}{r:R V}
theorem tm{R:V->Value->Prop}:∀{xs:List V} {ys:List Value} (ps:List Str),All2 R xs ys->All2 (λ(p:Str×V) (q:Str×Value)=>p.1=q.1/\R p.2 q.2) (ps.zip xs) (ps.zip ys):=by
 intro xs ys ps h
 induction h generalizing ps with
 |nil=>cases ps<;>exact .nil
 |cons h t i=>cases ps with
  |nil=>exact .nil
  |cons p ps=>exact .cons ⟨rfl,h⟩ (i ps)
theorem zC{a:Nat}{f:Mi.Fn}{C:List V}{ys:List Value}{Q:Value->Shared->Prop}(ay:Gd J w T K H)(O:fT K a f)(hx:fw J w H cls n Fn.ax)(R:Rm A F (n+1))(S:Sg J w H F L X G loc s.heap)
 (e:iB Fn f C G=some r)(hv:All2 (VR X) C ys)(k:K1 J w H F L X loc s cls (λX v y=>VR X v y) r Q E):codeAny (model J w) A (.call (.ref a) ⟨ys,[]⟩) (wants Q E) s:=by
 unfold iB at e
 split at e
 case isFalse=>ext e
 rename_i hlen
 obtain⟨l1,l2⟩:=Bool.and_eq_true_iff.mp hlen
 have l1:=Nat.ble_eq.mp l1
 have l2:=Nat.ble_eq.mp l2
 have la:C.length=ys.length:=hv.length
 obtain⟨oc,od,au,M,N,ab,dV,kV,ar,pm,an,ae,ct,hK,t,p⟩:=O.ex
 have az:K.In s.heap:=ay.k.keeps S.keep
 obtain⟨ag,hd,hb⟩:=p s ys az (by lia) (by lia)
 have u:A.depth<recursionLimit:=by have:=R.2.2.1;show A.depth<1000;omega
 refine codeAny_call_function u (az _ _ hK) rfl O.co O.gen rfl (codeRec_of az t) (hb _ _ _ _ ?_)
 split at e
 rename_i av cs ai
 simp only[newFunctionEnv,Option.isSome_none,Bool.false_eq_true,if_false]
 refine wpAny_bind (wpAny_alloc ?_)
 refine wpAny_bind (wpAny_layCells _ (λM kind af=>by cases ah:kind==NameKind.cell<;>simp[ah]) _ _ _ _ ?_)
 rw[show({s with heap:=s.heap.push {cls:=.type "frame",data:=.dict #[]}}:Shared).heap.objs.size=s.heap.objs.size+1 from Heap.size_push ..]
 obtain⟨c,h⟩:∃c:Env,c={scope:=f.sc,locals:=s.heap.objs.size,globals:=mainGlobals,cells:=cellsFrom (s.heap.objs.size+1) f.sc.names [],qual:=N++Str.ofString ".<locals>.",func:=some a,code:=ae,frame:=some s.heap.objs.size,builtins:=builtinsNs}:=⟨_,rfl⟩
 have g:c.frame=some s.heap.objs.size:=by rw[h]
 obtain⟨S1,P1⟩:=S.frame (env':=c) g (by rw[h];exact O.kind)
 obtain⟨d,S2,P2,a2⟩:=tj f.sc.names S1 (cs:=[]) (acc:=[]) .nil
 clear S1
 rw[ai] at S2 a2
 rw[Heap.size_push] at a2
 have N2:bG c ⟨f.sc.names,[],cs⟩ (c::F) s.heap.objs.size d:=by
  subst h
  exact⟨O.kind,rfl,rfl,rfl,rfl,⟨_,_,_,rfl,rfl,rfl⟩,λx i _ q=>tl a2 x i q⟩
 have ak:All2 (VR d) (C++f.dflt.drop (f.dflt.length-(f.ps.length-C.length))) (ys++ag.drop (f.dflt.length-(f.ps.length-ys.length))):=by
  rw[la]
  exact(hv.mono λ_ _ q=>q.pre (P1.pre.trans P2.pre)).append ((hd.mono λ_ _ q=>q.pre (hO d)).drop _)
 split at e
 case h_2=>ext e
 rename_i o aa aj
 have D:s.heap.get? s.heap.objs.size=none:=jf _
 refine wpAny_bind ?_
 rw[←h]
 refine wpAny_mono (te (Q:=λ_ s'=>∃m t3,s'={s with heap:=m,toks:=t3}/\Sg J w H (c::F) s.heap.objs.size d aa o.loc m/\Step d [s.heap.objs.size] (pushCells (s.heap.push {cls:=.type "frame",data:=.dict #[]}) f.sc.names) d m/\bG c o (c::F) s.heap.objs.size d)
  (tm f.ps ak) (s:={s with heap:=pushCells (s.heap.push {cls:=.type "frame",data:=.dict #[]}) f.sc.names}) S2 N2 aj (λm t3 S3 P3 N3=>⟨m,t3,rfl,S3,P3,N3⟩)) (λ_ s' hh=>?_) (λ_ _ x=>x)
 ·obtain⟨m,t3,rfl,S3,P3,N3⟩:=hh
  refine wpAny_pure ⟨ay.nolimit.keeps S3.keep,?_⟩
  refine codeAny_func ?_
  have P:Step X [s.heap.objs.size] s.heap d m:=(P1.trans P2|>.weaken (λ_ q=>nomatch q) λb hb=>by rw[List.mem_singleton.mp hb];exact S2.b6).trans P3
  clear S2
  have R1:Rm (A.deeper c) (c::F) n:=⟨Around.frames_deeper R.1,R.2.1,by have:=R.2.2.1;show A.depth+1+n<990;omega,by have:=R.2.2.2;show A.units+3+10*n<9400;omega⟩
  generalize hr:Fn.ax o f.body aa=zz at e
  cases zz with
  |none=>ext e
  |some rr=>
   refine hx (s:={s with heap:=m,toks:=t3}) R1 ⟨F,rfl,g⟩ S3 N3 hr ?_
   clear hr
   cases rr with
   |ok fl I aq=>
    intro l h4 t4 y ao S4 p4
    obtain⟨W,S5⟩:=zA S g D P ao S4
    clear g
    cases fl with
    |next=>
     ext e
     ext p4
     exact k l h4 t4 _ W S5 rfl
    |ret v=>
     ext e
     obtain⟨aA,rfl,hz⟩:=p4
     exact k l h4 t4 aA W S5 hz
    |brk=>ext e
    |cont=>ext e
   |exc I aq=>
    ext e
    intro l h4 t4 x X4
    obtain⟨aw,b1,b2,b3,b4,b5⟩:=X4.base
    refine zv (s:={s with heap:=h4,toks:=t4}) R1.1 g b2 λh5 T5 hu=>?_
    exact k l h5 t4 x (zB S g D P X4 ⟨aw,b1,T5,b3,b4,b5⟩ hu)
theorem zD(c:Gd J w T K H)(N:∀a f,T.fn a=some f->fT K a f)(x:fw J w H cls n Fn.ax):lx J w H cls (n+1) (iC T Fn):=by
 intro A F L X loc G s a b ys r Q E R S e v k
 unfold iC at e
 split at e
 ·ext e
 ·rename_i f h
  exact zC c (N a f h) x R S e v k
structure mU(K:Frag)(C init:Nat):Prop where
 makes:makesIn K C=true
 find:findIn K (.ref C) "__init__" =some (some (.ref init))
 fn:typeIn K (.ref init)=some (.type "function")
theorem zE(ab:Gd J w T K H)(I:iG K T)(MK:∀C c,T.cls C=some c->mU K C c.init)(D:lx J w H cls n Fn.call):pV J w H cls (n+1) (jL T Fn):=by
 intro A F L X loc G s v y as ys r Q E R S e hy m k
 unfold jL at e
 split at e
 ·rename_i a
  ext hy
  split at e
  ·rename_i c M
   obtain⟨hm,hi,hf⟩:=MK a c M
   have ae:K.In s.heap:=ab.k.keeps S.keep
   refine wpAny_call ?_
   obtain⟨b,g,d,t,V⟩:=s
   refine make_core (makes_of ae hm) (looks_findIn ae hi) (λl=>bind_fn ae l hf) (.inl rfl) ?_
   obtain⟨S1,P1⟩:=S.push (o:=.dict []) (ob:=emptyDict) rfl ⟨⟨rfl,rfl,rfl⟩, #[],0,[],rfl,λ_ h=>by simp at h,.nil,.nil,.nil⟩
   have hd:(X++[b.objs.size])[G.length]? =some b.objs.size:=by rw[←S.len];simp
   obtain⟨u,P2⟩:=S1.push (o:=.inst a G.length) (ob:=instObj a b.objs.size) rfl ⟨rfl,rfl,b.objs.size,by rw[List.getElem?_append_left (by have:=(List.getElem?_eq_some_iff.mp hd).1;exact this)];exact hd,rfl⟩
   rw[Heap.size_push] at u P2
   have O:(X++[b.objs.size]++[b.objs.size+1])[G.length+1]? =some (b.objs.size+1):=by
    have:(X++[b.objs.size]).length=G.length+1:=by simp[S.len]
    rw[←this];simp
   have P:=P1.trans P2
   have R1:Rm (A.under (.builtin "type.__call__" ⟨.ref a::ys,[]⟩)) F n:=⟨R.1,R.2.1,by have:=R.2.2.1;show A.depth+1+n<990;omega,by have:=R.2.2.2;show A.units+1+10*n<9400;omega⟩
   rcases jg e with⟨r',z,i,x⟩|⟨z,i,rfl⟩
   ·refine codeAny_mono (D (Q:=λv f=>v=.none/\Q (.ref (b.objs.size+1)) f) (E:=E) (s:=⟨(b.push emptyDict).push (instObj a b.objs.size),g,d,t,V⟩) R1 u i (.cons ⟨_,O,rfl⟩ (m.mono λ_ _ q=>q.pre P.pre)) ?_) ?_
    ·clear i
     intro j B tk y st S' p
     split at x
     ·rename_i N
      ext x
      have N:=ef.mp N
      subst N
      refine⟨p,k j B tk _ ((P.iH).trans st S'.b6) S' ⟨_,gg st.pre O,rfl⟩⟩
     ·ext x
    ·intro W f af
     rcases W with e|(v|_|_|_)<;>exact af
   ·refine codeAny_mono (D (Q:=λv f=>v=.none/\Q (.ref (b.objs.size+1)) f) (E:=E) (s:=⟨(b.push emptyDict).push (instObj a b.objs.size),g,d,t,V⟩) R1 u i (.cons ⟨_,O,rfl⟩ (m.mono λ_ _ q=>q.pre P.pre)) ?_) ?_
    ·exact Exc.move (s:=⟨b,g,d,t,V⟩) (t₁:=t) P.iH k
    ·intro W f af
     rcases W with e|(v|_|_|_)<;>exact af
  ·exact wpAny_call (D (R.le (by lia)) S e m k)
 ·rename_i aa
  exact zk I ab S e hy m k
end
section
variable{J:Program}{w:World}{H:Heap}{F:List Env}{L:Addr}{X:List Addr}{G z:Hp}{loc loc':List (Str×V)}{h B:Heap}
variable{M:Model}{A:Around}{E:Value->Shared->Prop}{s:Shared}{Z:Env}{Y en':En}{T:Tb}{K:Frag}{cls:Value}{n:Nat}{Fn:Fs}{r:RS}
theorem cW.up{d:Hp}{c:List (Str×V)}(S:Sg J w H F L X d c s.heap){j:List Addr}{B h'':Heap}{e:Addr}(R:cW J w H F L X s cls z loc' j B e)
 (T:∃Q,H.StaysIn Q/\fS cls Q F e h''/\(∀(i:Nat) (o:O) (a:Addr),z.get i=some o->j[i]? =some a->∃f,Q.get? a=some f/\OR J w j o f)/\(∀a∈j,∃f,Q.get? a=some f)/\
   ∀b o,b∉X->b≠L->b∉b7 F->s.heap.get? b=some o->Q.get? b=some o)(u:B.UpToSlots h''):cW J w H F L X s cls z loc' j h'' e:=by
 obtain⟨W,y,A,C,D,E,I,K,M,x⟩:=R
 refine⟨T,λb o r t k e=>?_,A,C,D,E,I,K,?_,x⟩
 ·obtain⟨P,p⟩:=y b o r t k e
  obtain⟨g,q⟩:=u b _ p (by
   obtain⟨W,N,h,v⟩:=S.ff.mem k
   rw[e] at h;ext h
   exact v)
  exact⟨g,q⟩
 ·obtain⟨m,n,l⟩:=M
  exact⟨m,u.ns n,l⟩
theorem tn{P:Heap}{e:Addr}{u:Value}{Q:Unit->Shared->Prop}(C:Z.frame=some L)(x:Heap.HeldW P F e cls u L s.heap)
 (y:∀B,Heap.HeldW P F e cls u L B->s.heap.UpToSlots B->Q () {s with heap:=B}):
 wpAny M A (do
  if(←field (.ref e) 1)==.none then unsupported "frame.own-activation:exception-without-traceback"
  setFlight (.ref e) Z.frame) Q E s:=by
 obtain⟨H,I,K,N,v,T,O,ts,r,l,p,k,i,g,m,d,w⟩:=x
 have a:3<ts.size:=(Array.getElem?_eq_some_iff.mp w).1
 have t:∀b,b≠T->(s.heap.update T (Obj.mapFields (·.setIfInBounds 3 (rawInt L)))).get? b=s.heap.get? b:=λb h=>Heap.get?_update_other _ _ (Ne.symm h)
 have n:∀b o,s.heap.get? b=some o->(∀v,o.data≠.fields v)->b≠T:=λb o h f q=>by
  rw[q,m] at h;injection h with h;subst h;exact f ts d
 refine wpAny_bind (wpAny_field r p k ?_)
 rw[if_neg (by simp)]
 rw[C]
 unfold setFlight
 refine wpAny_bind (wpAny_field r p k ?_)
 rw[if_pos (show(Value.ref T !=Value.none)=true from by simp)]
 refine wpAny_setField m d a (y _ ⟨λb o c=>(t b λq=>by rw[q,i] at c;ext c).trans (H b o c),I,K.of_keeps λb o h f=>⟨o,(t b (n b o h f)).trans h,rfl⟩,?_⟩ λb o h D=>⟨o.slots,(t b (n b o h D)).trans h⟩)
 exact⟨N,v,T,_,_,(t e (Ne.symm g)).trans r,l,p,k,i,g,Heap.get?_update_self _ m (Obj.isFreed_of_fields (Obj.data_mapFields d _)),Obj.data_mapFields d _,by simp[a]⟩
theorem zF{a:Hp}{l:List (Str×V)}{n:Nat}(R:Rm A F n)(v:Top Z F L)(S:Sg J w H F L X a l s.heap){j:List Addr}{B:Heap}{tk:Nat}{e:Addr}(C:cW J w H F L X s cls z loc' j B e)(k:Exc J w H F L X s cls z loc' E):
 notedBy (model J w) A Z (λe t=>cameBackBy (model J w) A Z E e t) (.ref e) {s with heap:=B,toks:=tk}:=by
 obtain⟨o,rfl,f⟩:=v
 obtain⟨y,d,p,g,i,m⟩:=C.base
 unfold notedBy
 refine lz (s:={s with heap:=B,toks:=tk}) R.1 f p λq h u=>?_
 obtain⟨x,h⟩:=h
 unfold cameBackBy
 refine tn (s:={s with heap:=q,toks:=tk}) f h λr b c=>?_
 exact k j r tk e ((C.up S ⟨y,d,iJ f h,g,i,m⟩ u).up S ⟨y,d,iJ f b,g,i,m⟩ c)
end
noncomputable def SS(s:Stmt):ShS->Prop
 |.expr e=>∃p,s=.Expr e p/\isCall e=true
 |.pass=>∃p,s=.Pass p
 |.ret e=>∃p,s=.Return (some e) p
 |.kI x e=>∃q p,s=.Assign [.Name x q] e p/\(!fP e)=true
 |.jH x l y d f w=>∃q p N h,s=.Assign [.Name x q] (.ListComp l [⟨.Name y N,d,f,0⟩] w h) p/\cZ d=true/\Nat.beq q.line h.line=true/\(!w.names.any (λq=>sq q.1 x))=true
 |.jI o a e=>∃q p,s=.Assign [.Attribute o a q] e p/\(fo o&&!fP e)=true
 |.jJ o i e=>∃q p,s=.Assign [.Subscript o i q] e p/\(!fP e)=true
 |.i8 xs e=>∃ts k q p,s=.Assign [.Tuple ts k q] e p/\namesOf ts=some xs/\((Nat.beq xs.length 2||Nat.beq xs.length 3)&&apart xs&&i9 xs.length e&&kM ((ts.head?.map (·.pos.line)).getD 0) ts)=true
 |.fO t b o=>∃p,s=.If t b o p
 |.cA t b=>∃p,s=.While t b [] p
 |.for x d b=>∃q p,s=.For (.Name x q) d b [] p/\cZ d=true
 |.raise c g=>∃q r p,s=.Raise (some (.Call (.Name c q) g [] r)) none p/\ee g=true
 |.kJ b c x=>∃p q r t k u v,s=.Try b [.ExceptHandler (some (.Name c q)) none [.Assign [.Name x r] (.Constant .none k t) u] v] [] [] p
 |.kK b c o A C y n=>∃p q D E F H I K L M m,s=.Try b [.ExceptHandler (some (.Name c q)) (some n) [.Assign [.Attribute (.Attribute (.Name o D) A E) C F] (.Name y H) I,.Raise (some (.Name m K)) none L] M] [] [] p/\(sq n m&&cQ o&&cQ y&&cQ n)=true
 |.no=>True
theorem SS.ite{t:Stmt}{c:Bool}{s:ShS}(h:c=true->SS t s):SS t (if c then s else .no):=by
 split
 ·exact h (by assumption)
 ·trivial
theorem zG(t:Expr)(e:Expr)(p:Pos):SS (.Assign [t] e p) (gY (.Assign [t] e p)):=by
 cases t with
 |Name x q=>
  cases e with
  |ListComp l d r u=>
   cases d with
   |nil=>trivial
   |cons g d=>
    obtain⟨y,m,f,a⟩:=g
    cases y with
    |Name y D=>
     cases a with
     |ofNat n=>
      cases n with
      |zero=>
       cases d with
       |nil=>
        refine SS.ite (c:=cZ m&&Nat.beq q.line u.line&&!r.names.any (λq=>sq q.1 x)) (s:=.jH x l y m f r) λb=>?_
        obtain⟨v,w⟩:=Bool.and_eq_true_iff.mp b
        obtain⟨A,C⟩:=Bool.and_eq_true_iff.mp v
        exact⟨_,_,_,_,rfl,A,C,w⟩
       |cons=>trivial
      |succ=>cases d<;>trivial
     |negSucc=>cases d<;>trivial
    |_=>cases d<;>trivial
  |_=>first|exact⟨_,_,rfl,rfl⟩|trivial
 |Attribute o a q=>exact SS.ite (s:=.jI o a e) λb=>⟨_,_,rfl,b⟩
 |Subscript o i q=>exact SS.ite (s:=.jJ o i e) λb=>⟨_,_,rfl,b⟩
 |Tuple ts k q=>
  have:gY (.Assign [.Tuple ts k q] e p)=match namesOf ts with
   |some xs=>if(Nat.beq xs.length 2||Nat.beq xs.length 3)&&apart xs&&i9 xs.length e&&kM ((ts.head?.map (·.pos.line)).getD 0) ts then .i8 xs e else .no
   |.none=>.no:=rfl
  rw[this]
  cases h:namesOf ts with
  |none=>trivial
  |some xs=>exact SS.ite (s:=.i8 xs e) λb=>⟨_,_,_,_,rfl,h,b⟩
 |_=>trivial
theorem mV{s:Stmt}{e:Expr}{k:Str->ShS}(h:∀x p,e=.Name x p->SS s (k x)):SS s (kN e k):=by
 cases e<;>first|exact h _ _ rfl|trivial
theorem tq{s:Stmt}{e:Expr}{k:Expr->Str->ShS}(h:∀o a p,e=.Attribute o a p->SS s (k o a)):SS s (o_ e k):=by
 cases e<;>first|exact h _ _ _ rfl|trivial
theorem zH{a s:Stmt}{k:Expr->Expr->ShS}(h:∀t e p,s=.Assign [t] e p->SS a (k t e)):SS a (rT s k):=by
 cases s<;>try trivial
 case Assign ts e p=>
 cases ts with
 |nil=>trivial
 |cons t ts=>cases ts with
  |nil=>exact h _ _ _ rfl
  |cons=>trivial
theorem zI{t s:Stmt}{k:Expr->ShS}(h:∀e p,s=.Raise (some e) none p->SS t (k e)):SS t (rU s k):=by
 cases s<;>try trivial
 case Raise e c p=>
 cases c with
 |some=>trivial
 |none=>cases e with
  |none=>trivial
  |some e=>exact h _ _ rfl
theorem zJ{s:Stmt}{e:Expr}{k:ShS}(h:∀u v,e=.Constant .none u v->SS s k):SS s (rV e k):=by
 cases e<;>try trivial
 case Constant c u v=>
 cases c<;>first|exact h _ _ rfl|trivial
theorem zK(b:List Stmt)(c:Str)(q:Pos)(n:Option Str)(h:List Stmt)(v p:Pos):SS (.Try b [.ExceptHandler (some (.Name c q)) n h v] [] [] p) (rW b c n h):=by
 cases h with
 |nil=>trivial
 |cons s r=>
  refine zH λt e u a=>?_
  cases n with
  |none=>cases r with
   |cons=>trivial
   |nil=>
    refine mV λx Q D=>zJ λk w C=>?_
    rw[a,D,C]
    exact⟨_,_,_,_,_,_,_,rfl⟩
  |some n=>cases r with
   |nil=>trivial
   |cons R r=>cases r with
    |cons=>trivial
    |nil=>
     refine tq λS F K d=>tq λo E L f=>mV λI M g=>mV λy N i=>zI λT O l=>mV λH P m=>SS.ite λA=>?_
     rw[a,d,f,g,i,l,m]
     exact⟨_,_,_,_,_,_,_,_,_,_,_,rfl,A⟩
theorem zL(g:Stmt):SS g (gY g):=by
 cases g with
 |Expr e p=>exact SS.ite (s:=.expr e) λa=>⟨_,rfl,a⟩
 |Pass p=>exact⟨_,rfl⟩
 |Return e p=>
  cases e with
  |none=>trivial
  |some e=>exact⟨_,rfl⟩
 |Assign ts e p=>
  cases ts with
  |nil=>trivial
  |cons t ts=>
   cases ts with
   |nil=>exact zG t e p
   |cons=>trivial
 |If t b o p=>exact⟨_,rfl⟩
 |While t b o p=>
  cases o with
  |nil=>exact⟨_,rfl⟩
  |cons=>trivial
 |For t m b o p=>
  cases t with
  |Name x q=>
   cases o with
   |nil=>exact SS.ite (s:=.for x m b) λa=>⟨_,_,rfl,a⟩
   |cons=>trivial
  |_=>trivial
 |Raise e c p=>
  cases e with
  |none=>trivial
  |some e=>
   cases e with
   |Call f i u r=>
    cases f with
    |Name f q=>
     cases u with
     |nil=>
      cases c with
      |none=>exact SS.ite (s:=.raise f i) λa=>⟨_,_,_,rfl,a⟩
      |some=>trivial
     |cons=>trivial
    |_=>trivial
   |_=>trivial
 |Try b d o k p=>
  cases d with
  |nil=>trivial
  |cons h d=>
   cases h with
   |ExceptHandler y n l v=>
    cases y with
    |none=>first|trivial|(cases d<;>trivial)
    |some y=>
     cases y with
     |Name c q=>
      cases d with
      |nil=>cases o with
       |nil=>cases k with
        |nil=>exact zK b c q n l v p
        |cons=>trivial
       |cons=>trivial
      |cons=>trivial
     |_=>first|trivial|(cases d<;>trivial)
 |_=>trivial
theorem p_{e:Expr}{t:Option Expr}{l:Nat}{Z:Env}(h:(!fP e)=true):swapsWith e t l Z=pure false:=by
 cases e<;>first|rfl|specialize h
theorem jV{e t:Expr}{l:Nat}{Z:Env}(h:(!fP e)=true):swapsWithSole [t] e l Z=pure false:=p_ (t:=some t) (l:=l) (Z:=Z) h
theorem tu{b:Type}{Y:En}{x:Option (R b)}{f:b->Hp->Option RS}{r:RS}(h:lift Y x f=some r):(∃a G,x=some (.ok a G)/\f a G=some r)\/∃G,x=some (.exc G)/\r=.exc Y.loc G:=by
 cases x with
 |none=>exact nos h
 |some x=>cases x with
  |ok a G=>exact .inl ⟨_,_,rfl,h⟩
  |exc G=>exact .inr ⟨_,rfl,(Option.some.inj h).symm⟩
section
variable{J:Program}{w:World}{H:Heap}{F:List Env}{L:Addr}{X:List Addr}{G z:Hp}{loc loc':List (Str×V)}{h B:Heap}
variable{M:Model}{A:Around}{E:Value->Shared->Prop}{s:Shared}{Z:Env}{Y en':En}{T:Tb}{K:Frag}{cls:Value}{n:Nat}{Fn:Fs}{r:RS}{Q:Flow->Shared->Prop}
theorem fy{b d:Type}{m:Sem d}{P:List Addr->b->d->Prop}{x:Option (R b)}{f:b->Hp->Option RS}{c:d->Shared->Prop}
 (e:lift Y x f=some r)(k:K2 J w H F L X s cls r Q E)
 (h:∀{i:R b},x=some i->K1 J w H F L X Y.loc s cls P i c E->wpAny (model J w) A m c E s)
 (n:∀{a:b} {z:Hp} {j:List Addr} {B:Heap} {tk:Nat} {y:d},f a z=some r->bV F L X s.heap j B->Sg J w H F L j z Y.loc B->P j a y->K2 J w H F L j {s with heap:=B,toks:=tk} cls r Q E->c y {s with heap:=B,toks:=tk}):
 wpAny (model J w) A m c E s:=by
 rcases tu e with⟨a,z,g,l⟩|⟨z,g,rfl⟩
 ·exact h g λj B tk y t S p=>n l t S p (K2.move t k)
 ·exact h g k
theorem lA{f:Fl}{y:Flow}{z:Hp}{loc':List (Str×V)}(k:K2 J w H F L X s cls (.ok f loc' z) Q E){B:Heap}{tk:Nat}(S:Sg J w H F L X z loc' B)(P:Step X [L] s.heap X B)(p:FR X f y):Q y {s with heap:=B,toks:=tk}:=
 k X B tk y (P.toF λa h=>List.mem_singleton.mp h) S p
theorem zM(x:pZ J w H cls n Fn.ex)(m:fw J w H cls n Fn.ax):fw J w H cls (n+1) (mv T Fn):=by
 intro A F L X Z Y G s u r Q E R l S N e k
 cases u with
 |nil=>
  ext e
  exact wpAny_execs_nil (Norm.now (P:=λj y=>FR j .next y) k S rfl s.toks)
 |cons i b=>
  refine wpAny_execs_cons ?_
  replace e:hG (Fn.ex Y i G) (λf loc G=>mu f loc G (Fn.ax ⟨Y.sc,loc,Y.bF⟩ b G))=some r:=e
  generalize g:Fn.ex Y i G=zz at e
  cases zz with
  |none=>ext e
  |some q=>
   refine x (R.le (by lia)) l S N g ?_
   clear g
   cases q with
   |ok f loc d=>
    intro a h c y t S1 p
    cases f with
    |next=>
     ext p
     exact m (s:={s with heap:=h,toks:=c}) (Y:=⟨Y.sc,loc,Y.bF⟩) (R.le (by lia)) l S1 (N.pre t.pre).jh e (K2.move t k)
    |brk=>ext e;ext p;exact k a h c _ t S1 rfl
    |cont=>ext e;ext p;exact k a h c _ t S1 rfl
    |ret v=>ext e;obtain⟨C,rfl,o⟩:=p;exact k a h c _ t S1 ⟨C,rfl,o⟩
   |exc loc d=>ext e;exact k
theorem zN{e:Expr}{p:Pos}(l:cw J w H cls n Fn.ev)(R:Rm A F (n+1))(S:Sg J w H F L X G Y.loc s.heap)(N:bG Z Y F L X)(d:isCall e=true)
 (f:(lift Y (Fn.ev Y e G) λv G=>if noRef v then some (.ok .next Y.loc G) else .none)=some r)(k:K2 J w H F L X s cls r Q E):wpAny (model J w) A (exec (.Expr e p) Z) Q E s:=by
 refine wpAny_Expr ?_ (by unfold interactive;rw[N.kind];rfl) (by cases e<;>first|rfl|specialize d)
 clear d
 refine fy (P:=λX v y=>VR X v y) f k (λi c=>l (R.le (by lia)) S N i c) λ{v z ρ₁ h tk y} b t S1 a c=>?_
 clear f k
 split at b
 ·rename_i g
  ext b
  have q:Q .next {s with heap:=h,toks:=tk}:=Norm.now (s:={s with heap:=h,toks:=tk}) (P:=λj y=>FR j .next y) c S1 rfl tk
  cases v<;>first|(specialize g;done)|skip
  clear g
  all_goals simp only[VR] at a
  ·subst a;exact q
  ·subst a;exact q
  ·obtain⟨m,rfl⟩:=a;exact q
  ·obtain⟨m,rfl⟩:=a;exact q
  ·subst a;exact q
  ·subst a;exact q
 ·ext b
theorem zO{e:Expr}{p:Pos}(f:cw J w H cls n Fn.ev)(R:Rm A F (n+1))(S:Sg J w H F L X G Y.loc s.heap)(N:bG Z Y F L X)
 (b:(lift Y (Fn.ev Y e G) λv G=>some (.ok (.ret v) Y.loc G))=some r)(k:K2 J w H F L X s cls r Q E):wpAny (model J w) A (exec (.Return (some e) p) Z) Q E s:=by
 refine wpAny_Return_some ?_
 refine fy (P:=λX v y=>VR X v y) b k (λc a=>f (R.le (by lia)) S N c a) λ{v z ρ₁ h tk y} d t S1 g a=>?_
 clear b k
 ext d
 exact Norm.now (s:={s with heap:=h,toks:=tk}) (P:=λj y=>FR j (.ret v) y) a S1 ⟨y,rfl,g⟩ tk
theorem tv{x:Str}{v:V}{y:Value}(S:Sg J w H F L X G Y.loc s.heap)(N:bG Z Y F L X)(e:dz (bZ Y G x v)=some r)(h:VR X v y)(k:K2 J w H F L X s cls r Q E):wpAny M A (storeName Z x y) (λf=>Q .next) E s:=by
 unfold dz at e
 split at e
 ·rename_i n c b
  ext e
  exact ji S N b h λB tk a P d=>lA k a P rfl
 ·ext e
theorem zP{x:Str}{e:Expr}{q p:Pos}(g:cw J w H cls n Fn.ev)(R:Rm A F (n+1))(S:Sg J w H F L X G Y.loc s.heap)(N:bG Z Y F L X)(d:(!fP e)=true)
 (f:(lift Y (Fn.ev Y e G) λv G=>dz (bZ Y G x v))=some r)(k:K2 J w H F L X s cls r Q E):wpAny (model J w) A (exec (.Assign [.Name x q] e p) Z) Q E s:=by
 refine wpAny_Assign_Name ?_ (p_ d)
 refine fy (P:=λX v y=>VR X v y) f k (λb a=>g (R.le (by lia)) S N b a) λ{v z ρ₁ h tk y} c t S1 i a=>?_
 exact tv (s:={s with heap:=h,toks:=tk}) S1 (N.pre t.pre) c i a
theorem zQ{o e:Expr}{a:Str}{q p:Pos}(ae:Gd J w T K H)(TC:∀C x,T.cls C=some x->gN K C x)(M:cw J w H cls n Fn.ev)(R:Rm A F (n+1))(S:Sg J w H F L X G Y.loc s.heap)(N:bG Z Y F L X)(g:(fo o&&!fP e)=true)
 (I:(lift Y (Fn.ev Y e G) λv G=>lift Y (Fn.ev Y o G) λO G=>d0 Y (dQ T G O a v))=some r)(k:K2 J w H F L X s cls r Q E):wpAny (model J w) A (exec (.Assign [.Attribute o a q] e p) Z) Q E s:=by
 obtain⟨hb,g⟩:=Bool.and_eq_true_iff.mp g
 rw[arm_exec_Assign]
 refine wpAny_bind (wpAny_standAt ?_)
 rw[jV g]
 refine wpAny_bind (wpAny_pure ?_)
 rw[if_neg Bool.false_ne_true]
 refine wpAny_bind ?_
 refine fy (P:=λX v y=>VR X v y) I k (λf d=>M (R.le (by lia)) S N f d) λ{v z ρ₁ h tk y} D l S1 p1 d=>?_
 clear I k
 rw[show swappedStores [.Attribute o a q] e Z=pure none from rfl]
 refine wpAny_bind (wpAny_pure ?_)
 show wpAny _ A (do assignAll y [assign (.Attribute o a q) Z];pure .next) Q E _
 refine wpAny_bind ?_
 show wpAny _ A (assign (.Attribute o a q) Z y) _ E _
 rw[arm_assign_Attribute]
 refine wpAny_bind (wpAny_holding ?_)
 refine fy (s:={s with heap:=h,toks:=tk}) (P:=λX v y=>VR X v y) D d (λf i=>M (s:={s with heap:=h,toks:=tk}) (R.le (by lia)) S1 (N.pre l.pre) f i) λ{O aa u b t y2} c m V p2 i=>?_
 clear d D
 refine wpAny_bind (wpAny_standAt (wpAny_bind (wpAny_holding ?_)))
 unfold d0 at c
 split at c
 ·rename_i ab e4
  ext c
  refine sL (s:={s with heap:=b,toks:=t}) ae TC V e4 p2 (p1.pre m.pre) λh3 t3 W P3=>?_
  exact wpAny_release' (wpAny_pure (lA (s:={s with heap:=b,toks:=t}) i W P3 rfl))
 ·ext c
theorem zR{o i e:Expr}{q p:Pos}(D:cw J w H cls n Fn.ev)(R:Rm A F (n+1))(S:Sg J w H F L X G Y.loc s.heap)(N:bG Z Y F L X)(hc:(!fP e)=true)
 (V:(lift Y (Fn.ev Y e G) λv G=>lift Y (Fn.ev Y o G) λov G=>lift Y (Fn.ev Y i G) λW G=>d0 Y (fj G ov W v))=some r)(k:K2 J w H F L X s cls r Q E):wpAny (model J w) A (exec (.Assign [.Subscript o i q] e p) Z) Q E s:=by
 rw[arm_exec_Assign]
 refine wpAny_bind (wpAny_standAt ?_)
 rw[jV hc]
 refine wpAny_bind (wpAny_pure ?_)
 rw[if_neg Bool.false_ne_true]
 refine wpAny_bind ?_
 refine fy (P:=λX v y=>VR X v y) V k (λg C=>D (R.le (by lia)) S N g C) λ{v z ρ₁ h tk y} O l S1 p1 C=>?_
 clear V k
 rw[show swappedStores [.Subscript o i q] e Z=pure none from rfl]
 refine wpAny_bind (wpAny_pure ?_)
 show wpAny _ A (do assignAll y [assign (.Subscript o i q) Z];pure .next) Q E _
 refine wpAny_bind ?_
 show wpAny _ A (assign (.Subscript o i q) Z y) _ E _
 rw[arm_assign_Subscript]
 refine wpAny_bind (wpAny_holding ?_)
 refine fy (s:={s with heap:=h,toks:=tk}) (P:=λX v y=>VR X v y) O C (λg f=>D (s:={s with heap:=h,toks:=tk}) (R.le (by lia)) S1 (N.pre l.pre) g f) λ{ov aa I c t y2} T m S2 p2 f=>?_
 clear C O
 refine wpAny_bind (wpAny_holding ?_)
 refine fy (s:={s with heap:=c,toks:=t}) (P:=λX v y=>VR X v y) T f (λg f=>D (s:={s with heap:=c,toks:=t}) (R.le (by lia)) S2 ((N.pre l.pre).pre m.pre) g f) λ{W ab K d a y3} x u S3 p3 k3=>?_
 clear f T
 refine wpAny_bind (wpAny_standAt (wpAny_bind (wpAny_holding ?_)))
 unfold d0 at x
 split at x
 ·rename_i ae e5
  ext x
  refine xK (s:={s with heap:=d,toks:=a}) S3 e5 (p2.pre u.pre) p3 (p1.pre (m.pre.trans u.pre)) λh4 t4 M P4=>?_
  exact wpAny_release' (wpAny_pure (lA (s:={s with heap:=d,toks:=a}) k3 M (P4.weaken (λ_ q=>nomatch q) λb hb=>by rw[List.mem_singleton.mp hb];exact M.b6) rfl))
 ·ext x
theorem zS{t:Expr}{b o:List Stmt}{p:Pos}(x:hU J w H cls n Fn.ev)(g:fw J w H cls n Fn.ax)(R:Rm A F (n+1))(l:Top Z F L)(S:Sg J w H F L X G Y.loc s.heap)(N:bG Z Y F L X)
 (d:(lift Y (Fn.ev Y t G) λv G=>bX (truth v) (Fn.ax Y b G) (Fn.ax Y o G))=some r)(k:K2 J w H F L X s cls r Q E):wpAny (model J w) A (exec (.If t b o p) Z) Q E s:=by
 refine wpAny_If ?_
 refine fy (P:=λD v b=>truth v=some b) d k (λ{C} f c=>x (R.le (by lia)) S N f (λv z u=>by
  subst u
  rw[f] at d
  rcases eQ (show bX (truth v) (Fn.ax Y b z) (Fn.ax Y o z)=some r from d) with⟨q,D⟩|⟨q,I⟩<;>exact⟨_,q⟩) c) λ{v z ρ₁ h tk y} m a S1 i c=>?_
 rcases eQ m with⟨q,e⟩|⟨q,e⟩
 ·rw[i] at q;ext q
  exact g (s:={s with heap:=h,toks:=tk}) (R.le (by lia)) l S1 (N.pre a.pre) e c
 ·rw[i] at q;ext q
  exact g (s:={s with heap:=h,toks:=tk}) (R.le (by lia)) l S1 (N.pre a.pre) e c
noncomputable def mW(M:Model)(A:Around)(E:Value->Shared->Prop)(Z:Env)(x:Str)(t:Value->Sem Unit):Prop:=∀(y:Value) (Q:Unit->Shared->Prop) (s:Shared),wpAny M A (storeName Z x y) Q E s->wpAny M A (t y) Q E s
theorem Sg.more(S:Sg J w H F L X G loc h)(k:∀b o,h.get? b=some o->B.get? b=some o):Sg J w H F L X G loc B/\Step X [] h X B:=by
 refine⟨⟨λb o e=>k b o (S.keep b o e),S.off,S.nd,S.len,λa c=>(let⟨o,e⟩:=S.live a c;⟨o,k a o e⟩),λi o a f g=>?_,S.eO,S.b6,S.above,?_,gh S.ff λa p o e n=>⟨o,k a o e,n⟩,S.dN⟩,
  ⟨List.prefix_refl _,λa c=>.inl c,(λp h=>nomatch h),λb o p s e=>k b o e⟩⟩
 ·obtain⟨d,q,r⟩:=S.cell i o a f g
  exact⟨d,k _ _ q,r⟩
 ·obtain⟨m,n,l⟩:=S.loc
  exact⟨m,n.keeps k,l⟩
theorem Sg.zT(S:Sg J w H F L X G loc h)(e:∀x,loc'.lookup x=loc.lookup x):Sg J w H F L X G loc' h:=by
 obtain⟨m,n,l⟩:=S.loc
 exact⟨S.keep,S.off,S.nd,S.len,S.live,S.cell,S.eO,S.b6,S.above,⟨m,n,λx=>by rw[e];exact l x⟩,S.ff,S.dN⟩
theorem tw{Q:Unit->Shared->Prop}{xs:List Str}:∀{ts:List (Value->Sem Unit)} {v:List V} {ys:List Value} {Y:En} {G:Hp} {s:Shared},
 All2 (mW M A E Z) xs ts->xs.length=v.length->All2 (VR X) v ys->
 Sg J w H F L X G Y.loc s.heap->bG Z Y F L X->cV (xs.zip v) Y G=some (en',z)->(∀B tk,Sg J w H F L X z en'.loc B->Step X [L] s.heap X B->Q () {s with heap:=B,toks:=tk})->
 wpAny M A (assignInOrder ts ys) Q E s:=by
 induction xs with
 |nil=>
  intro ts v ys Y G s d l f S N e g
  ext d
  cases f with
  |nil=>
   ext e
   exact wpAny_pure (g s.heap s.toks S (Step.refl.weaken (λI q=>nomatch q) λb o=>by rw[List.mem_singleton.mp o];exact S.b6))
  |cons I K=>simp at l
 |cons x xs p=>
  intro ts v ys Y G s d l f S N e g
  cases d with
  |cons r u=>
   cases f with
   |nil=>simp at l
   |cons y C=>
    rw[List.zip_cons_cons] at e
    unfold cV at e
    split at e
    ·rename_i n D m
     unfold assignInOrder
     refine wpAny_bind (wpAny_holding (r _ _ _ (ji S N m y λh t S1 P N1=>?_)))
     exact p (s:={s with heap:=h,toks:=t}) u (by simpa using l) C S1 N1 e λa c k i=>g a c k (P.trans i)
    ·ext e
theorem tx{t:Expr}{ts:List Expr}{xs:List Str}(e:Mi.namesOf (t::ts)=some xs):∃x p l,t=.Name x p/\Mi.namesOf ts=some l/\xs=x::l:=by
 obtain⟨x,a,b⟩:=Option.bind_eq_some_iff.mp e
 obtain⟨l,h,rfl⟩:=Option.map_eq_some_iff.mp b
 cases t<;>first|exact Mi.nos a|skip
 obtain rfl:=Option.some.inj a
 exact⟨_,_,l,rfl,h,rfl⟩
theorem zU{Z:Env}{ts:List Expr}{xs:List Str}(e:Mi.namesOf ts=some xs):All2 (mW M A E Z) xs ((assignEach ts Z).map (·.2))/\
 (assignEach ts Z).length=xs.length/\(assignEach ts Z).findIdx? (·.1)=none/\ts.length=xs.length:=by
 induction ts generalizing xs with
 |nil=>obtain rfl:=Option.some.inj e;exact⟨.nil,rfl,rfl,rfl⟩
 |cons t ts f=>
  obtain⟨x,p,l,rfl,a,rfl⟩:=tx e
  clear e
  obtain⟨i,b,c,d⟩:=f a
  refine⟨.cons (λy Q s h=>?_) i,congrArg Nat.succ b,?_,congrArg Nat.succ d⟩
  ·show wpAny _ A (assign (.Name x p) Z y) Q E s
   rw[arm_assign_Name]
   exact wpAny_bind (wpAny_standAt (wpAny_bindName h))
  ·show List.findIdx? _ ((false,assign (.Name x p) Z)::assignEach ts Z)=none
   rw[List.findIdx?_cons,c];rfl
theorem zV{Z:Env}(xs:List Str):All2 (mW M A E Z) xs (xs.map λn=>bindName Z n):=by
 induction xs with
 |nil=>exact .nil
 |cons x xs i=>exact .cons (λy Q s h=>wpAny_bindName h) i
noncomputable def TV(e:Expr):Prop:=(∃f a k p,e=.Call f a k p)\/∃c r k p,e=.Tuple (c::r) k p/\foldedForSure 8 c=false/\constantsAlone 8 c=false
theorem zW{m:Nat}{e:Expr}(h:i9 m e=true):TV e:=by
 cases e<;>first|exact Mi.nft h|skip
 ·exact Or.inl ⟨_,_,_,_,rfl⟩
 ·rename_i s k p
  cases s with
  |nil=>exact Mi.nft h
  |cons c r=>
   refine Or.inr ⟨c,r,k,p,rfl,?_⟩
   cases c<;>first|exact Mi.nft h|exact⟨rfl,rfl⟩|skip
   rename_i v i p
   cases v<;>first|exact Mi.nft h|skip
   rename_i x q
   refine⟨rfl,?_⟩
   have:=hV (Bool.and_eq_true_iff.mp h).1
   show((x==("__debug__":Str))&&_)=false
   rw[this,Bool.false_and]
theorem zX{ts:List Expr}{k:Nat}{q:Pos}{e:Expr}{xs:List Str}(D:Z.scope.kind=.function)(E:Mi.namesOf ts=some xs)(F:i9 xs.length e=true):
 swappedStores [.Tuple ts k q] e Z=pure none\/(swappedStores [.Tuple ts k q] e Z=pure (some xs)/\∀x∈xs,Z.kindOf x=some .local):=by
 have n:∀(i:Nat) (f:Expr->Option Str) (A:∀id o,f (.Name id o)=if(Z.kindOf id==some .local&&o.line==i)=true then some id else none) {ts:List Expr} {xs:List Str},Mi.namesOf ts=some xs->
  (ts.filterMap f).length=ts.length->ts.filterMap f=xs/\∀x∈xs,Z.kindOf x=some .local:=by
  intro i f A ts
  induction ts with
  |nil=>intro xs e O;ext e;exact⟨rfl,λO h=>nomatch h⟩
  |cons t ts K=>
   intro xs e b
   obtain⟨x,p,l,rfl,u,rfl⟩:=tx e
   clear e
   rw[List.filterMap_cons,A] at b⊢
   by_cases c:(Z.kindOf x==some .local&&p.line==i)=true
   ·rw[if_pos c] at b⊢
    dsimp only at b⊢
    obtain⟨H,I⟩:=K u (by simpa using b)
    refine⟨by rw[H],λy v=>?_⟩
    rcases List.mem_cons.mp v with rfl|v
    ·exact beq_iff_eq.mp (Bool.and_eq_true_iff.mp c).1
    ·exact I y v
   ·rw[if_neg c] at b
    dsimp only at b
    have:=List.length_filterMap_le f ts
    simp only[List.length_cons] at b
    lia
 have C:Z.blockKind=.function:=by unfold Env.blockKind;rw[D];rfl
 have w:∀c s m o,(foldedForSure 8 c=false)->(constantsAlone 8 c=false)->swappedStores [.Tuple ts k q] (.Tuple (c::s) m o) Z=pure none\/(swappedStores [.Tuple ts k q] (.Tuple (c::s) m o) Z=pure (some xs)/\∀x∈xs,Z.kindOf x=some .local):=by
  intro c s m o d g
  unfold swappedStores
  dsimp only
  split
  ·exact .inl rfl
  ·split
   ·exact .inl rfl
   ·split
    ·exact .inl rfl
    ·rename_i hc
     rw[Bool.or_eq_true,not_or] at hc
     have b:=hc.1
     rw[bne_iff_ne,ne_eq,Classical.not_not] at b
     obtain⟨L,M⟩:=n ((Option.map (λx=>x.pos.line) ts.head?).getD 0) _ (λO P=>rfl) E b
     rw[if_neg (by rw[List.all_cons,d];exact Bool.false_ne_true),if_neg (by rw[List.all_cons,g];exact Bool.false_ne_true)]
     exact .inr ⟨by rw[L],M⟩
 rcases zW F with⟨f,a,N,p,rfl⟩|⟨c,r,m,p,rfl,d,g⟩
 ·exact .inl rfl
 ·exact w _ _ _ _ d g
theorem tA{a:Type}{l:List a}(h:l.Nodup):l.reverse.Nodup:=by
 unfold List.Nodup at h⊢
 rw[List.pairwise_reverse]
 exact h.imp λq=>Ne.symm q
theorem zY:∀{xs:List Str} {s:List V},xs.length=s.length->xs.reverse.zip s.reverse=(xs.zip s).reverse:=by
 intro xs
 induction xs with
 |nil=>intro s h;cases s with
  |nil=>rfl
  |cons=>cases h
 |cons x xs i=>intro s h;cases s with
  |nil=>cases h
  |cons v s=>
   have B:xs.length=s.length:=Nat.succ.inj h
   rw[List.reverse_cons,List.reverse_cons,List.zip_cons_cons,List.reverse_cons,←i B,List.zip_append (by rw[List.length_reverse,List.length_reverse,B])]
   rfl
theorem tB{m:Nat}{e:Expr}(h:i9 m e=true):(!fP e)=true:=by
 cases e<;>first|rfl|specialize h
theorem mY:∀{xs:List Str},apart xs=true->xs.Nodup
 |[],_=>.nil
 |x::r,h=>by
  unfold apart at h
  obtain⟨a,b⟩:=Bool.and_eq_true_iff.mp h
  refine List.nodup_cons.mpr ⟨λq=>?_,mY b⟩
  have:r.any (sq x)=true:=List.any_eq_true.mpr ⟨x,q,jO x⟩
  rw[this] at a;ext a
theorem tD:∀{xs:List Str} {vs:List V} {Y:En} {G:Hp},(∀x∈xs,Y.sc.lookup x=some .local)->xs.length=vs.length->cV (xs.zip vs) Y G=some (⟨Y.sc,(xs.zip vs).foldl (λl p=>put p.1 p.2 l) Y.loc,Y.bF⟩,G):=by
 intro xs
 induction xs with
 |nil=>intro vs Y G c a;cases vs with
  |nil=>rfl
  |cons=>cases a
 |cons x xs i=>intro vs Y G h a;cases vs with
  |nil=>cases a
  |cons v vs=>
   rw[List.zip_cons_cons]
   unfold cV
   rw[jd,dr,h x (.head _)]
   dsimp only
   rw[i (Y:=⟨Y.sc,put x v Y.loc,Y.bF⟩) (λy b=>h y (.tail _ b)) (Nat.succ.inj a)]
   rfl
theorem tE{x:Str}:∀{ps:List (Str×V)} {loc:List (Str×V)},(ps.map (·.1)).Nodup->(ps.foldl (λl p=>put p.1 p.2 l) loc).lookup x=(match ps.lookup x with|some v=>some v|.none=>loc.lookup x):=by
 intro ps
 induction ps with
 |nil=>intro loc c;rfl
 |cons p ps i=>
  obtain⟨y,v⟩:=p
  intro loc h
  obtain⟨n,a⟩:=List.nodup_cons.mp h
  rw[List.foldl_cons,i a,jP,List.lookup_cons]
  cases q:x==y with
  |true=>
   have e:x=y:=beq_iff_eq.mp q
   have:ps.lookup x=none:=by
    cases b:ps.lookup x with
    |none=>rfl
    |some w=>exact absurd (List.mem_map_of_mem (f:=(·.1)) (mem_of_lookup b)) (e▸n)
   rw[this];simp[e]
  |false=>
   have e:¬x=y:=λb=>by rw[b,beq_self_eq_true] at q;ext q
   simp[e]
theorem zZ{x:Str}:∀{ps:List (Str×V)},(ps.map (·.1)).Nodup->ps.reverse.lookup x=ps.lookup x:=by
 intro ps h
 have r:(ps.reverse.map (·.1)).Nodup:=by rw[List.map_reverse];exact tA h
 have u:∀{l:List (Str×V)} {v:V},(l.map (·.1)).Nodup->(x,v)∈l->l.lookup x=some v:=by
  intro l v
  induction l with
  |nil=>intro d h;ext h
  |cons p l i=>
   intro n m
   obtain⟨a,b⟩:=List.nodup_cons.mp n
   rw[List.lookup_cons]
   rcases List.mem_cons.mp m with q|q
   ·rw[←q,beq_self_eq_true]
   ·have:x≠p.1:=λc=>a (by show p.1∈_;rw[←c];exact List.mem_map_of_mem (f:=λp:Str×V=>p.1) q)
    rw[beq_eq_false_iff_ne.mpr this];exact i b q
 cases q:ps.lookup x with
 |some v=>exact u r (List.mem_reverse.mpr (mem_of_lookup q))
 |none=>
  cases c:ps.reverse.lookup x with
  |none=>rfl
  |some v=>rw[u h (List.mem_reverse.mp (mem_of_lookup c))] at q;ext q
theorem z0{ts:List Expr}{kk:Nat}{e:Expr}{xs:List Str}{q p:Pos}(hv:cw J w H cls n Fn.ev)(R:Rm A F (n+1))(S:Sg J w H F L X G Y.loc s.heap)(N:bG Z Y F L X)(hn:Mi.namesOf ts=some xs)
 (hc:((Nat.beq xs.length 2||Nat.beq xs.length 3)&&apart xs&&i9 xs.length e&&kM ((ts.head?.map (·.pos.line)).getD 0) ts)=true)
 (he:(lift Y (Fn.ev Y e G) λv G=>fc Y xs v G)=some r)(k:K2 J w H F L X s cls r Q E):wpAny (model J w) A (exec (.Assign [.Tuple ts kk q] e p) Z) Q E s:=by
 obtain⟨af,_⟩:=Bool.and_eq_true_iff.mp hc
 obtain⟨ag,I⟩:=Bool.and_eq_true_iff.mp af
 have D:=mY (Bool.and_eq_true_iff.mp ag).2
 obtain⟨n1,n2,n3,n4⟩:=zU (M:=model J w) (A:=A) (E:=E) (Z:=Z) hn
 have u:∀{v:V} {z:Hp} {ρ₁:List Addr} {a:Heap} {tk:Nat} {y:Value},fc Y xs v z=some r->Sg J w H F L ρ₁ z Y.loc a->bG Z Y F L ρ₁->VR ρ₁ v y->K2 J w H F L ρ₁ {s with heap:=a,toks:=tk} cls r Q E->
  ∃t ys,y=.ref t/\ys.size=xs.length/\a.IsTuple t ys/\∀h,(∀b o,a.get? b=some o->h.get? b=some o)->
   (∀T,All2 (mW (model J w) A E Z) xs T->
     wpAny (model J w) A (assignInOrder T ys.toList) (λ_=>Q .next) E {s with heap:=h,toks:=tk})/\
   ((∀x∈xs,Z.kindOf x=some .local)->wpAny (model J w) A (assignInOrder (xs.reverse.map λn=>bindName Z n) ys.toList.reverse) (λ_=>Q .next) E {s with heap:=h,toks:=tk}):=by
  intro v z ρ₁ a tk y c S1 N1 p1 g
  unfold fc at c
  split at c
  ·rename_i i
   split at c
   ·rename_i C hi
    split at c
    ·rename_i W
     have W:=Nat.eq_of_beq_eq_true W
     obtain⟨t,ys,m,ht,ho,rr⟩:=S1.tup hi
     obtain⟨t',ae,rfl⟩:=p1
     rw[ht] at ae;ext ae
     have f:ys.size=xs.length:=by have:=rr.length;simp at this;lia
     refine⟨t,ys,rfl,f,⟨_,ho,rfl,m,rfl⟩,λh hk=>?_⟩
     obtain⟨S2,P2⟩:=S1.more hk
     unfold dz at c
     split at c
     ·rename_i ao aq e3
      ext c
      refine⟨λT a1=>?_,λd=>?_⟩
      ·refine tw (s:={s with heap:=h,toks:=tk}) a1 W rr S2 N1 e3 λh3 t3 S3 P3=>?_
       have k2:=K2.move (t₁:=tk) (P2.iH (F:=F) (L:=L)) g
       exact lA (s:={s with heap:=h,toks:=tk}) k2 S3 P3 rfl
      ·have aa:∀x∈xs,Y.sc.lookup x=some .local:=λx K=>by
        have:=d x K
        rw[←N1.names];exact this
       have ah:=tD (G:=z) aa W
       rw[ah] at e3
       ext e3
       have ab:xs.reverse.length=C.reverse.length:=by simp[W]
       have ai:=tD (G:=z) (xs:=xs.reverse) (vs:=C.reverse) (Y:=Y) (λx K=>aa x (List.mem_reverse.mp K)) ab
       have ak:All2 (VR ρ₁) C.reverse ys.toList.reverse:=rr.reverse
       refine tw (s:={s with heap:=h,toks:=tk}) (zV (M:=model J w) (A:=A) (E:=E) (Z:=Z) xs.reverse) ab ak S2 N1 ai λh3 t3 S3 P3=>?_
       have k2:=K2.move (t₁:=tk) (P2.iH (F:=F) (L:=L)) g
       have hz:(xs.zip C).map (·.1)=xs:=List.map_fst_zip (by lia)
       have aj:xs.reverse.zip C.reverse=(xs.zip C).reverse:=zY W
       refine lA (s:={s with heap:=h,toks:=tk}) k2 (S3.zT λx=>?_) P3 rfl
       show List.lookup x ((xs.zip C).foldl (λl p=>put p.1 p.2 l) Y.loc)=List.lookup x ((xs.reverse.zip C.reverse).foldl (λl p=>put p.1 p.2 l) Y.loc)
       rw[aj,tE (by rw[hz];exact D),tE (by rw[List.map_reverse,hz];exact tA D),zZ (by rw[hz];exact D)]
     ·ext c
    ·ext c
   ·ext c
  ·ext c
 rcases zX (k:=kk) (q:=q) N.kind hn I with hw|⟨hw,d⟩
 ·refine Assign_Tuple ?_ (jV (tB I)) hw
  refine fy (P:=λX v y=>VR X v y) he k (λe1 g=>hv (R.le (by lia)) S N e1 g) λ{v z ρ₁ a tk y} c O S1 p1 g=>?_
  obtain⟨t,ys,rfl,f,hT,hm⟩:=u c S1 (N.pre O.pre) p1 g
  rw[arm_assign_Tuple]
  refine wpAny_bind (wpAny_standAt ?_)
  unfold unpack
  rw[n3,n2,←f]
  refine wpAny_bind (wpAny_holding (wpAny_unpackItems_tuple (s:={s with heap:=a,toks:=tk}) R.2.1 hT λh K=>?_))
  exact(hm h λb o e=>K b o (Nat.ne_of_lt (Heap.lt_size e)) e).1 _ n1
 ·refine Assign_Tuple_swapped ?_ (jV (tB I)) hw
  refine fy (P:=λX v y=>VR X v y) he k (λe1 g=>hv (R.le (by lia)) S N e1 g) λ{v z ρ₁ a tk y} c O S1 p1 g=>?_
  obtain⟨t,ys,rfl,f,hT,hm⟩:=u c S1 (N.pre O.pre) p1 g
  rw[←f]
  refine wpAny_unpackItems_tuple (s:={s with heap:=a,toks:=tk}) R.2.1 hT λh K=>?_
  exact(hm h λb o e=>K b o (Nat.ne_of_lt (Heap.lt_size e)) e).2 d
noncomputable def lB(J:Program)(w:World)(A:Around)(Z:Env)(E:Value->Shared->Prop):Value->Shared->Prop:=notedBy (model J w) A Z λe s=>cameBackBy (model J w) A Z E e s
theorem K2.lp{n:Nat}(R:Rm A F n)(t:Top Z F L){a:Hp}{l:List (Str×V)}(S:Sg J w H F L X a l s.heap)(k:K2 J w H F L X s cls r Q E):K2 J w H F L X s cls r Q (lB J w A Z E):=by
 cases r with
 |ok f loc G=>exact k
 |exc loc G=>exactλj B tk e b=>zF R t S b k
theorem z3{x:Option RS}{g:List (Str×V)->Hp->Option RS}(e:dS x g=some r):
 (∃loc G,(x=some (.ok .next loc G)\/x=some (.ok .cont loc G))/\g loc G=some r)\/(∃loc G,x=some (.ok .brk loc G)/\r=.ok .next loc G)\/(∃v loc G,x=some (.ok (.ret v) loc G)/\r=.ok (.ret v) loc G)\/∃loc G,x=some (.exc loc G)/\r=.exc loc G:=by
 unfold dS at e
 split at e
 ·split at e
  ·exact .inl ⟨_,_,.inl rfl,e⟩
  ·exact .inl ⟨_,_,.inr rfl,e⟩
  ·cases e;exact .inr (.inl ⟨_,_,rfl,rfl⟩)
  ·cases e;exact .inr (.inr (.inl ⟨_,_,_,rfl,rfl⟩))
 ·rename_i h
  cases x with
  |none=>cases e
  |some x=>
   cases(e)
   cases r with
   |ok f loc G=>exact absurd rfl (h f loc G)
   |exc loc G=>exact .inr (.inr (.inr ⟨_,_,rfl,rfl⟩))
theorem tF{b:List Stmt}{C:List (Str×V)->Hp->Option RS}{m:Nat}{W:Nat->Shared->Prop}(g:fw J w H cls n Fn.ax)(R:Rm A F n)(o:Top Z F L)(S:Sg J w H F L X G Y.loc s.heap)(N:bG Z Y F L X)
 (e:dS (Fn.ax Y b G) C=some r)(k:K2 J w H F L X s cls r Q (lB J w A Z E))
 (u:∀{loc':List (Str×V)} {z:Hp} {j:List Addr} {B:Heap} {tk:Nat},C loc' z=some r->bV F L X s.heap j B->Sg J w H F L j z loc' B->∃i,i<m/\W i {s with heap:=B,toks:=tk}):
 wpAny (model J w) A (execs b Z) (λf a=>match f with
  |.next|.cont=>∃i,i<m/\W i a
  |.brk=>Q .next a
  |.ret v=>Q (.ret v) a) (lB J w A Z E) s:=by
 rcases z3 e with⟨loc,d,q,x⟩|⟨loc,d,q,rfl⟩|⟨v,loc,d,q,rfl⟩|⟨loc,d,q,rfl⟩
 ·clear e
  rcases q with q|q
  ·refine g R o S N q ?_
   intro c h l y t S1 p
   cases p
   exact u x t S1
  ·refine g R o S N q ?_
   intro c h l y t S1 p
   cases p
   exact u x t S1
 ·clear u e
  refine g R o S N q ?_
  intro c h l y t S1 p
  cases p
  exact k c h l _ t S1 rfl
 ·clear u e
  refine g R o S N q ?_
  intro c h l y t S1 p
  obtain⟨I,rfl,D⟩:=p
  exact k c h l _ t S1 ⟨I,rfl,D⟩
 ·exact g R o S N q k
inductive qa(J:Program)(w:World)(T:Tb)(H:Heap)(F:List Env)(L:Addr)(X:List Addr)(s:Shared)(Y:En)(t:Expr)(b:List Stmt)(r:RS)(n m:Nat)(s':Shared):Prop
 |mk (hm:m<=n) (z loc' j B tk) (e:s'={s with heap:=B,toks:=tk}) (st:bV F L X s.heap j B) (S:Sg J w H F L j z loc' B) (e2:(run T m).cA ⟨Y.sc,loc',Y.bF⟩ t b z=some r):qa J w T H F L X s Y t b r n m s'
theorem z4{t:Expr}{b:List Stmt}{p:Pos}(IH:∀m,m<n->hU J w H cls m (run T m).ev/\fw J w H cls m (run T m).ax)(R:Rm A F n)(tp:Top Z F L)(S:Sg J w H F L X G Y.loc s.heap)(N:bG Z Y F L X)
 (e:(run T n).cA Y t b G=some r)(k:K2 J w H F L X s cls r Q E):wpAny (model J w) A (exec (.While t b [] p) Z) Q E s:=by
 refine wpAny_While ?_
 refine codeAny_whileLoop (qa J w T H F L X s Y t b r n) ?_ n
  ⟨Nat.le_refl _,G,Y.loc,X,s.heap,s.toks,rfl,.refl,S,e⟩
 clear e
 rintro m s' ⟨hm,I,l,g,i,t1,rfl,a,S1,u⟩
 cases m with
 |zero=>cases u
 |succ m=>
  obtain⟨ht,hs⟩:=IH m (by lia)
  have d:Rm A F m:=R.le (by lia)
  have O:K2 J w H F L g {s with heap:=i,toks:=t1} cls r Q (lB J w A Z E):=K2.lp R tp (s:={s with heap:=i,toks:=t1}) S1 (K2.move a k)
  clear k
  have N1:bG Z ⟨Y.sc,l,Y.bF⟩ F L g:=(N.pre a.pre).jh
  have h:(lift ⟨Y.sc,l,Y.bF⟩ ((run T m).ev ⟨Y.sc,l,Y.bF⟩ t I) λv G=>bX (truth v) (dS ((run T m).ax ⟨Y.sc,l,Y.bF⟩ b G) λloc G=>(run T m).cA ⟨Y.sc,loc,Y.bF⟩ t b G) (some (.ok .next l G)))=some r:=u
  clear u
  refine fy (s:={s with heap:=i,toks:=t1}) (P:=λ_ v b=>truth v=some b) h O (λ{r'} c k3=>ht (s:={s with heap:=i,toks:=t1}) d S1 N1 c (λv z hr=>by
   subst hr
   rw[c] at h
   rcases eQ (show bX (truth v) (dS ((run T m).ax ⟨Y.sc,l,Y.bF⟩ b z) λloc G=>(run T m).cA ⟨Y.sc,loc,Y.bF⟩ t b G) (some (.ok .next l z))=some r from h) with⟨q,_⟩|⟨q,_⟩<;>exact⟨_,q⟩) k3) λ{v ab aa M D y} c f o p2 V=>?_
  clear h O
  rcases eQ c with⟨q,x⟩|⟨q,x⟩
  ·clear c
   rw[p2] at q;cases q
   dsimp only
   rw[if_pos rfl]
   exact tF (s:={s with heap:=M,toks:=D}) (W:=qa J w T H F L X s Y t b r n)
    hs d tp o (N1.pre f.pre) x V λ{loc' z j B tk} e5 C K=>⟨m,by lia,by lia,z,loc',j,B,tk,rfl,(a.trans f o.b6).trans C K.b6,K,e5⟩
  ·clear c
   rw[p2] at q;cases q
   dsimp only
   rw[if_neg Bool.false_ne_true]
   cases x
   exact wpAny_execs_nil (Norm.now (s:={s with heap:=M,toks:=D}) (P:=λj y=>FR j .next y) V o rfl D)
noncomputable def eR(X:List Addr)(s:Src)(I:Addr)(i:Nat)(h:Heap):Prop:=match s with
 |.lst l=>∃a,X[l]? =some a/\h.IsListIter I a i
 |.tup v=>∃t,VR X v (.ref t)/\h.IsTupleIter I t i
 |.cY a c n=>IsRangeIter h I (a+c*(i:Int)) ((n:Int)-(i:Int)) c
theorem eR.keep{X j:List Addr}{s:Src}{I:Addr}{i:Nat}{h B:Heap}(x:eR X s I i h)(p:X<+:j)(k:∀o,h.get? I=some o->B.get? I=some o):eR j s I i B:=by
 cases s with
 |lst l=>obtain⟨a,e,o,q,b⟩:=x;exact⟨a,gg p e,o,k o q,b⟩
 |tup v=>obtain⟨a,e,o,q,b⟩:=x;exact⟨a,e.pre p,o,k o q,b⟩
 |cY a c n=>exact k _ x
structure OffI(H:Heap)(F:List Env)(L:Addr)(X:List Addr)(I:Addr):Prop where
 cell:I∉X
 loc:I≠L
 fr:I∉b7 F
 base:H.get? I=none
variable{I:Addr}{j:List Addr}{h'':Heap}
theorem Sg.but(S:Sg J w H F L X G loc h)(O:OffI H F L X I)(k:∀b o,b≠I->h.get? b=some o->B.get? b=some o):Sg J w H F L X G loc B:=by
 refine⟨λb o e=>k b o (λq=>by rw[q,O.base] at e;ext e) (S.keep b o e),S.off,S.nd,S.len,λa c=>(let⟨o,e⟩:=S.live a c;⟨o,k a o (λq=>O.cell (q▸c)) e⟩),λi o a g f=>?_,S.eO,S.b6,S.above,?_,gh S.ff λa c o e n=>⟨o,k a o (λq=>O.fr (q▸c)) e,n⟩,S.dN⟩
 ·obtain⟨d,q,r⟩:=S.cell i o a g f
  exact⟨d,k _ _ (λp=>O.cell (p▸List.mem_of_getElem? f)) q,r⟩
 ·obtain⟨m,n,l⟩:=S.loc
  exact⟨m,mI n λo e=>k _ _ (λp=>O.loc p.symm) e,l⟩
theorem bV.but(x:bV F L X h j B)(f:h.get? I=none)(k:∀b o,b≠I->B.get? b=some o->h''.get? b=some o):bV F L X h j h'':=by
 have n:∀b o,h.get? b=some o->b≠I:=λb o e q=>by rw[q,f] at e;ext e
 refine⟨x.pre,x.new,λb o a c d e=>k b o (n b o e) (x.keep b o a c d e),λb o a c d e=>?_⟩
 obtain⟨s,g⟩:=x.gk b o a c d e
 exact⟨s,k b _ (n b o e) g⟩
theorem Sg.alive(S:Sg J w H F L X G loc h)(x:bV F L X h j B)(f:Sg J w H F L j z loc' B){b:Addr}(a:B.get? b=none):h.get? b=none:=by
 clear S
 cases e:h.get? b with
 |none=>rfl
 |some o=>
  exfalso
  by_cases c:b∈X
  ·obtain⟨k,q⟩:=f.live b (x.pre.subset c);rw[a] at q;ext q
  ·by_cases d:b=L
   ·subst d
    obtain⟨m,n,l⟩:=f.loc
    obtain⟨i,q,l⟩:=eP n
    rw[a] at q;ext q
   ·by_cases g:b∈b7 F
    ·obtain⟨s,q⟩:=x.gk b o c d g e;rw[a] at q;ext q
    ·have:=x.keep b o c d g e;rw[a] at this;ext this
theorem OffI.fresh(S:Sg J w H F L X G loc h)(a:h.get? I=none):OffI H F L X I:=by
 refine⟨λq=>?_,λq=>?_,λq=>?_,?_⟩
 ·obtain⟨o,e⟩:=S.live I q;rw[a] at e;ext e
 ·obtain⟨m,n,b⟩:=S.loc
  obtain⟨o,e,b⟩:=eP n
  rw[←q,a] at e;ext e
 ·obtain⟨b,o,e,c⟩:=S.ff.mem q;rw[a] at e;ext e
 ·cases e:H.get? I with
  |none=>rfl
  |some o=>have:=S.keep I o e;rw[a] at this;ext this
theorem OffI.pre(O:OffI H F L X I)(x:bV F L X h j B){o:Obj}(e:h.get? I=some o):OffI H F L j I:=⟨x.old O.cell e,O.loc,O.fr,O.base⟩
theorem tG{k:Src}{i:Nat}{ov:Option V}{Q:Option Value->Shared->Prop}(hh:A.handled=none)(ab:Gd J w T K H)(S:Sg J w H F L X G loc s.heap)(x:eR X k I i s.heap)(O:OffI H F L X I)(e:cz T G k i=some ov)
 (d:∀B tk,(∀b o,b≠I->s.heap.get? b=some o->B.get? b=some o)->match ov with
   |none=>Q none {s with heap:=B,toks:=tk}
   |some v=>∀y,VR X v y->eR X k I (i+1) B->Q (some y) {s with heap:=B,toks:=tk}):
 wpAny (model J w) A (pyNext (.ref I)) Q E s:=by
 have sb:∀{B:Heap},Heap.SameBut I s.heap B->∀b o,b≠I->s.heap.get? b=some o->B.get? b=some o:=λD b o C e=>(D.2 b C).trans e
 cases k with
 |lst l=>
  obtain⟨a,ha,h⟩:=x
  unfold cz at e
  dsimp only at e
  obtain⟨xs,M,e⟩:=Mi.xq e
  obtain⟨a',ys,m,g,la,r⟩:=S.list M
  rw[ha] at g;ext g
  have N:xs.length=ys.size:=by simpa using r.length
  ext e
  generalize q:xs[i]? =zz at d
  cases zz with
  |none=>
   refine wpAny_pyNext_list_end hh h la.isList (by rw[List.getElem?_eq_none_iff] at q;rw[Array.getElem?_eq_none_iff];lia) λB R=>?_
   exact d B s.toks λb o C e=>R b o C e
  |some v=>
   obtain⟨y,W,hr⟩:=r.get q
   rw[Array.getElem?_toList] at W
   refine wpAny_pyNext_list_item h la.isList W λB f D=>?_
   exact d B s.toks (sb D) y hr ⟨a,ha,f⟩
 |tup v=>
  obtain⟨t,ht,h⟩:=x
  have u:∀{xs:List V} {ys:Array Value},All2 (VR X) xs ys.toList->s.heap.IsTuple t ys->some xs[i]? =some ov->wpAny (model J w) A (pyNext (.ref I)) Q E s:=by
   intro xs ys r hT e
   have N:xs.length=ys.size:=by simpa using r.length
   ext e
   cases q:xs[i]? with
   |none=>
    rw[q] at d
    refine wpAny_pyNext_tuple_end hh h hT (by rw[List.getElem?_eq_none_iff] at q;rw[Array.getElem?_eq_none_iff];lia) λB R=>?_
    exact d B s.toks λb o C e=>R b o C e
   |some v=>
    clear e
    rw[q] at d
    obtain⟨y,W,hr⟩:=r.get q
    rw[Array.getElem?_toList] at W
    refine wpAny_pyNext_tuple_item h hT W λB f D=>?_
    exact d B s.toks (sb D) y hr ⟨t,ht,f⟩
  clear d
  unfold cz at e
  dsimp only at e
  split at e
  ·obtain⟨xs,M,e⟩:=Mi.xr e
   obtain⟨a',ys,m,g,ho,r⟩:=S.tup M
   obtain⟨t',P,q⟩:=ht
   ext q
   rw[g] at P;ext P
   exact u r ⟨_,ho,rfl,m,rfl⟩ e
  ·split at e
   ·rename_i xs M
    obtain⟨ys,m,ho,r⟩:=ab.bO _ _ M
    ext ht
    exact u (r.mono λ_ _ p=>p.pre (hO X)) ⟨_,S.keep _ _ ho,rfl,m,rfl⟩ e
   ·ext e
  ·ext e
 |cY a c n=>
  have h:IsRangeIter s.heap I (a+c*(i:Int)) ((n:Int)-(i:Int)) c:=x
  unfold cz at e
  dsimp only at e
  ext e
  generalize q:Nat.ble (Nat.succ i) n=zz at d
  cases zz with
  |false=>
   refine wpAny_pyNext_range_end hh h ?_ λB R=>d B s.toks λb o C e=>R b o C e
   clear d
   have:¬(i+1<=n):=λae=>by rw[Nat.ble_eq.mpr ae] at q;ext q
   lia
  |true=>
   have aa:i+1<=n:=Nat.ble_eq.mp q
   refine wpAny_pyNext_range_item h (by lia) λB f D=>d B _ (sb D) _ ⟨_,rfl⟩ ?_
   clear d
   show IsRangeIter B I (a+c*((i+1:Nat):Int)) ((n:Int)-((i+1:Nat):Int)) c
   have e1:a+c*((i+1:Nat):Int)=a+c*(i:Int)+c:=by push_cast;rw[Int.mul_add,Int.mul_one,Int.add_assoc]
   have e2:(n:Int)-((i+1:Nat):Int)=(n:Int)-(i:Int)-1:=by push_cast;lia
   rw[e1,e2]
   exact f
theorem z5(n:Int):Builtin.Range.rangeSize 0 n 1=if 0<n then n else 0:=by rw[rangeSize_one];split<;>lia
theorem tH(a:Int):Builtin.Range.rangeSize a (-1) (-1)=if-1<a then a+1 else 0:=by
 unfold Builtin.Range.rangeSize
 have h:¬((-1:Int)>0):=by decide
 simp only[h,if_false]
 split
 ·rw[show(- -1:Int)=1 by decide,Int.ediv_one];first|lia|(split<;>omega)
 ·first|rfl|omega|(split<;>omega)
theorem z6{n:Int}(h:n<4096)(a:0<=n):Builtin.Range.small 0 n 1=true:=small_one (by decide) (by decide) (by lia) (by lia)
theorem z7{a:Int}(b:-1<=a)(h:a<=4095):Builtin.Range.small a (-1) (-1)=true:=by
 unfold Builtin.Range.small
 rw[tH]
 simp only[Builtin.Range.rangeFitsLong,Bool.and_eq_true,Bool.or_eq_true,decide_eq_true_eq,beq_iff_eq,show¬((-1:Int)>0) by decide,if_false]
 have A:-2^63<=a:=Int.le_trans (by decide) b
 have c:a<2^63:=Int.lt_of_le_of_lt h (by decide)
 split
 ·exact⟨⟨⟨⟨⟨A,c⟩,by decide⟩,by decide⟩,Int.le_trans A (Int.le_add_of_nonneg_right (by decide)),Int.lt_of_le_of_lt (Int.add_le_add_right h 1) (by decide)⟩,.inr (by decide)⟩
 ·exact⟨⟨⟨⟨⟨A,c⟩,by decide⟩,by decide⟩,by decide⟩,.inl rfl⟩
theorem jj(S:Sg J w H F L X G loc h)(a:Sg J w H F L j z loc B)(x:bV F L X h j B)(o:Obj):Sg J w H F L j z loc (B.push o)/\bV F L X h j (B.push o)/\OffI H F L j B.objs.size/\h.get? B.objs.size=none:=by
 obtain⟨S1,P⟩:=a.sM o
 exact⟨S1,x.trans P.iH a.b6,OffI.fresh a (jf _),S.alive x a (jf _)⟩
theorem z8{e:Expr}(h:rZ e=true):∃p s q,e=.Call (.Name (Str.ofString "range") p) s [] q/\ee s=true:=by
 obtain⟨x,b,c⟩:=any_some h
 clear h
 obtain⟨f,a,d⟩:=Option.bind_eq_some_iff.mp b
 clear b
 obtain⟨s,a⟩:=xm a
 obtain⟨q,rfl,g,-⟩:=yE a
 clear a
 obtain⟨p,rfl,-⟩:=yD (xn d)
 rw[d7.mp c]
 exact⟨_,_,_,rfl,g⟩
noncomputable def z9(J:Program)(w:World)(H:Heap)(F:List Env)(L:Addr)(X:List Addr)(s:Shared)(Y:En)(r:R Src)(Q:Value->Shared->Prop):Prop:=
 ∀{c:Src} {z:Hp} {j:List Addr} {B:Heap} {tk:Nat} {I:Addr},r=.ok c z->bV F L X s.heap j B->Sg J w H F L j z Y.loc B->eR j c I 0 B->OffI H F L j I->s.heap.get? I=none->Q (.ref I) {s with heap:=B,toks:=tk}
noncomputable def z_(J:Program)(w:World)(H:Heap)(F:List Env)(L:Addr)(X:List Addr)(s:Shared)(cls:Value)(Y:En)(r:R Src)(E:Value->Shared->Prop):Prop:=
 ∀z,r=.exc z->Exc J w H F L X s cls z Y.loc E
theorem tI{it:Expr}{r:R Src}{Q':Value->Shared->Prop}(ag:Gd J w T K H)(hv:cw J w H cls n Fn.ev)(hs:ez J w H cls n Fn.bL)(c:Rm A F n)(S:Sg J w H F L X G Y.loc s.heap)(N:bG Z Y F L X)
 (e:items T Fn Y it G=some r)(hx:z_ J w H F L X s cls Y r E)
 (V:z9 J w H F L X s Y r Q'):
 wpAny (model J w) A (eval it Z) (λxv aa=>wpAny (model J w) A (pyIter xv) Q' E aa) E s:=by
 unfold items at e
 split at e
 ·rename_i hr
  obtain⟨p,as,q,rfl,hf⟩:=z8 hr
  clear hr
  split at e
  ·rename_i f
   have st:=(lu hf).1
   have Q:Mi.name T Y G (Str.ofString "range")=some (.ty 5):=by
    unfold kR at f
    rw[jc]
    split at f
    ·rename_i hk
     rw[hk]
     dsimp only
     split at f
     ·rename_i v ab
      rw[ab,ef.mp f]
     ·ext f
    ·ext f
   rw[pT (by intro o a q h;ext h)]
   refine wpAny_bind (wpAny_Name (k_ ag S N Q λy hy=>?_) (by decide+kernel))
   have hy:y=.type "range" :=hy
   subst hy
   clear hy
   refine mS (K:=K) (first:=[]) (λh ah=>mR (λ_ q=>by specialize q) h) st ?_
   rcases jg e with⟨vs,x,D,d⟩|⟨x,D,rfl⟩
   ·clear e
    refine hs c S N st D ?_
    clear D
    intro ae M P ys g S1 p1
    refine⟨ag.k.keeps S1.keep,?_⟩
    obtain⟨af,e3,rfl⟩:=map_some d
    clear d
    cases su e3 with
    |@one m hm=>
      clear e3
      obtain⟨_,rfl,q1⟩:=p1.one
      obtain⟨t,rfl⟩:=q1
      refine call_range_1 (s:={s with heap:=M,toks:=P}) ?_
      obtain⟨S2,W,_,_⟩:=jj S S1 g {cls:=.type "range",data:=.fields #[.int 0 P,.int m t,.int 1 (P+1)]}
      refine wpAny_pyIter_range (IsRange.new M 0 m 1 _ _ _) (z6 hm.2 hm.1) ?_
      obtain⟨C,b,O,I⟩:=jj S S2 W {cls:=.type "range_iterator",data:=.fields #[rawInt 0,rawInt (Builtin.Range.rangeSize 0 m 1),rawInt 1]}
      refine V rfl b C ?_ O I
      clear V
      show IsRangeIter _ _ _ _ _
      have hz:Builtin.Range.rangeSize 0 m 1=((m.toNat:Nat):Int)-((0:Nat):Int):=by rw[z5];split<;>lia
      rw[←hz]
      exact Heap.get?_push_size _ rfl
    |@three a h3 h4=>
      clear e3
      obtain⟨_,_,_,rfl,q1,q2,q3⟩:=p1.three
      obtain⟨t,rfl⟩:=q1
      obtain⟨u,rfl⟩:=q2
      obtain⟨v,rfl⟩:=q3
      refine call_range_3 (s:={s with heap:=M,toks:=P}) (by decide) ?_ (.inl (PyProof.noPylong_small (by decide)))
      obtain⟨S2,W,_,_⟩:=jj S S1 g {cls:=.type "range",data:=.fields #[.int a t,.int (-1) u,.int (-1) v]}
      refine wpAny_pyIter_range (IsRange.new M a (-1) (-1) _ _ _) (z7 h3 h4) ?_
      obtain⟨C,b,O,I⟩:=jj S S2 W {cls:=.type "range_iterator",data:=.fields #[rawInt a,rawInt (Builtin.Range.rangeSize a (-1) (-1)),rawInt (-1)]}
      refine V rfl b C ?_ O I
      clear V
      show IsRangeIter _ _ _ _ _
      have hz:Builtin.Range.rangeSize a (-1) (-1)=(((a+1).toNat:Nat):Int)-((0:Nat):Int):=by rw[tH];split<;>lia
      have ha:a+-1*((0:Nat):Int)=a:=by lia
      rw[←hz,ha]
      exact Heap.get?_push_size _ rfl
   ·exact hs c S N st D (hx x rfl)
  ·ext e
 ·rcases jg e with⟨v,x,D,d⟩|⟨x,D,rfl⟩
  ·clear e
   refine hv c S N D ?_
   clear D
   intro ae M P y g S1 p1
   unfold srcOf at d
   split at d
   ·rename_i i
    obtain⟨a,ha,rfl⟩:=p1
    split at d
    ·rename_i xs hl
     ext d
     obtain⟨a',ys,m,l,la,rr⟩:=S1.list hl
     rw[ha] at l;ext l
     refine wpAny_pyIter_list (s:={s with heap:=M,toks:=P}) la.isList ?_
     obtain⟨C,b,O,I⟩:=jj S S1 g {cls:=.type "list_iterator",data:=.fields #[.ref a,.int 0 0]}
     exact V rfl b C ⟨a,ha,_,Heap.get?_push_size _ rfl,rfl,rfl⟩ O I
    ·rename_i xs hl
     ext d
     obtain⟨a',ys,m,l,ho,rr⟩:=S1.tup hl
     rw[ha] at l;ext l
     refine wpAny_pyIter_tuple (s:={s with heap:=M,toks:=P}) ⟨_,ho,rfl,m,rfl⟩ ?_
     obtain⟨C,b,O,I⟩:=jj S S1 g {cls:=.type "tuple_iterator",data:=.fields #[.ref a,.int 0 0]}
     exact V rfl b C ⟨a,⟨a,ha,rfl⟩,_,Heap.get?_push_size _ rfl,rfl,rfl⟩ O I
    ·ext d
   ·rename_i t
    ext p1
    split at d
    ·rename_i xs hl
     ext d
     obtain⟨ys,m,ho,rr⟩:=ag.bO _ _ hl
     refine wpAny_pyIter_tuple (s:={s with heap:=M,toks:=P}) ⟨_,S1.keep _ _ ho,rfl,m,rfl⟩ ?_
     obtain⟨C,b,O,I⟩:=jj S S1 g {cls:=.type "tuple_iterator",data:=.fields #[.ref t,.int 0 0]}
     exact V rfl b C ⟨t,rfl,_,Heap.get?_push_size _ rfl,rfl,rfl⟩ O I
    ·ext d
   ·ext d
  ·exact hv c S N D (hx x rfl)
theorem tJ{i:Expr}(h:cZ i=true)(x:Value):foldedSetIterable i Z x=pure x:=by
 cases i<;>first|exact Mi.nft h|rfl
inductive qb(J:Program)(w:World)(T:Tb)(H:Heap)(F:List Env)(L:Addr)(X:List Addr)(s:Shared)(Y:En)(x:Str)(b:List Stmt)(src:Src)(I:Addr)(r:RS)(n m:Nat)(s':Shared):Prop
 |mk (hm:m<=n) (i z loc' j B tk) (e:s'={s with heap:=B,toks:=tk}) (st:bV F L X s.heap j B) (S:Sg J w H F L j z loc' B) (xi:eR j src I i B) (O:OffI H F L j I) (e2:(run T m).fr ⟨Y.sc,loc',Y.bF⟩ x b src i z=some r):qb J w T H F L X s Y x b src I r n m s'
theorem mZ{s:Src}{i:Nat}(x:eR X s I i h):∃o,h.get? I=some o:=by
 cases s with
 |lst l=>obtain⟨b,d,o,q,e⟩:=x;exact⟨o,q⟩
 |tup v=>obtain⟨b,d,o,q,e⟩:=x;exact⟨o,q⟩
 |cY a c n=>exact⟨_,x⟩
theorem Aa{x:Str}{P:Expr}{b:List Stmt}{q p:Pos}(ao:Gd J w T K H)(hv:cw J w H cls n (run T n).ev)(hs:ez J w H cls n (run T n).bL)(IH:∀m,m<n->fw J w H cls m (run T m).ax)
 (R:Rm A F n)(tp:Top Z F L)(S:Sg J w H F L X G Y.loc s.heap)(N:bG Z Y F L X)(M:cZ P=true)
 (e:(lift Y (items T (run T n) Y P G) λxs G=>(run T n).fr Y x b xs 0 G)=some r)(k:K2 J w H F L X s cls r Q E):wpAny (model J w) A (exec (.For (.Name x q) P b [] p) Z) Q E s:=by
 refine wpAny_For ?_ (tJ M)
 obtain⟨ri,h⟩:∃ri,items T (run T n) Y P G=some ri:=by
  cases aq:items T (run T n) Y P G with
  |none=>rw[aq] at e;ext e
  |some ri=>exact⟨ri,rfl⟩
 refine tI ao hv hs R S N h (λz hr=>?_) λ{c ae ai h1 t1 I} hr ah S1 x1 O1 f1=>?_
 ·subst hr
  rw[h] at e
  ext e
  exact k
 subst hr
 rw[h] at e
 have e:(run T n).fr Y x b c 0 ae=some r:=e
 refine codeAny_forLoop_any (qb J w T H F L X s Y x b c I r n) ?_ n ⟨Nat.le_refl _,0,ae,Y.loc,ai,h1,t1,rfl,ah,S1,x1,O1,e⟩
 clear e
 rintro m s' ⟨hm,i,f,l,d,h2,t2,rfl,V,S2,x2,O,e2⟩
 cases m with
 |zero=>ext e2
 |succ m=>
  have af:Rm A F m:=R.le (by lia)
  have N2:bG Z ⟨Y.sc,l,Y.bF⟩ F L d:=(N.pre V.pre).jh
  have g:(match cz T f c i with
   |.none=>.none
   |some .none=>some (.ok .next l f)
   |some (some v)=>match bZ ⟨Y.sc,l,Y.bF⟩ f x v with
    |some (Y,G)=>dS ((run T m).ax Y b G) λloc G=>(run T m).fr ⟨Y.sc,loc,Y.bF⟩ x b c (i+1) G
    |.none=>.none)=some r:=e2
  clear e2
  generalize hn:cz T f c i=zz at g
  cases zz with
  |none=>ext g
  |some ov=>
   refine tG (s:={s with heap:=h2,toks:=t2}) R.2.1 ao S2 x2 O hn λC t3 hk=>?_
   clear hn
   have S3:Sg J w H F L d f l C:=S2.but O hk
   have aa:bV F L X s.heap d C:=V.but f1 hk
   cases ov with
   |none=>
    ext g
    exact wpAny_execs_nil (k d C t3 .next aa S3 rfl)
   |some v=>
    intro y hy x3
    refine wpAny_pure ?_
    rw[arm_assign_Name]
    dsimp only at g
    split at g
    ·rename_i aj ak e4
     refine wpAny_bind (wpAny_standAt (wpAny_bindName (ji (s:={s with heap:=C,toks:=t3}) S3 N2 e4 hy λu t4 S4 P4 N4=>?_)))
     have D:=td e4
     have ag:∀o,C.get? I=some o->u.get? I=some o:=λo aq=>P4.keep I o O.cell (λaq=>O.loc (List.mem_singleton.mp aq)) aq
     have x4:eR d c I (i+1) u:=x3.keep (List.prefix_refl _) ag
     have ab:bV F L X s.heap d u:=aa.trans (P4.toF λa ha=>List.mem_singleton.mp ha) S4.b6
     have k4:K2 J w H F L d {s with heap:=u,toks:=t4} cls r Q (lB J w A Z E):=K2.lp R tp (s:={s with heap:=u,toks:=t4}) S4 (K2.move ab k)
     refine tF (s:={s with heap:=u,toks:=t4}) (W:=qb J w T H F L X s Y x b c I r n) (IH m (by lia)) af tp S4 N4 g k4 λ{loc' z j B tk} e5 t S5=>?_
     obtain⟨o,ho⟩:=mZ x4
     refine⟨m,by lia,by lia,i+1,z,loc',j,B,tk,rfl,ab.trans t S5.b6,S5,x4.keep t.pre λo aq=>t.keep I o O.cell O.loc O.fr aq,O.pre t ho,?_⟩
     rw[D.1,D.2] at e5
     exact e5
    ·ext g
theorem Ab{x:Value}{Z env':Env}(h:Z.frame=env'.frame):noteFrame x Z=noteFrame x env':=by unfold noteFrame PySem.frameOf;rw[h]
theorem Ac{a:Type}{t:String}{x:Value}{Z env':Env}(h:Z.frame=env'.frame):(PySem.passOn t x Z:Sem a)=PySem.passOn t x env':=by unfold PySem.passOn;rw[h]
noncomputable def qc(M:Model)(A:Around)(E:Value->Shared->Prop)(e:Option (Value->Sem Unit))(Q:Value->Shared->Prop)(acc:Value)(Z:Env)(C:Addr)(r:Result)(s:Shared):Prop:=
 match r,e with
 |.ok b,none=>∃m,s.heap.Ns C m/\∀B,Heap.SameBut C s.heap B->Q acc {s with heap:=B}
 |.ok b,some u=>wpAny M A (u acc) (λb a=>∃m,a.heap.Ns C m/\∀B,Heap.SameBut C a.heap B->Q .none {a with heap:=B}) E s
 |.error x,_=>∃m,s.heap.Ns C m/\∀B,Heap.SameBut C s.heap B->wpAny M A (PySem.passOn "comprehension.variables-let-go" x Z:Sem Value) (λb c=>False) E {s with heap:=B}
theorem Ad{e:Expr}{c:Scope}{T:Pos}{n first:Sem Value}{g:Comprehension}{gs:List Comprehension}{W:List (Str×Addr)}{l:Option (Value->Sem Unit)}
 {Q:Value->Shared->Prop}
 (O:clausesOf e=g::gs)(hs:∀x,foldedSetIterable g.iter Z x=pure x)(C:closureFor c Z=pure W)
 (k:c.kind=.function)(i:∀x∈c.names,x.2=.local->c.names.lookup x.1=some .local)
 (h:wpAny M A first (λx q=>wpAny M A (pyIter x) (λit t=>wpAny M A n (λacc v=>
   wpAny M A (newFunctionEnv c Z.globals W [] Z.qual none .none (some Z)) (λcenv w=>cenv.frame=Z.frame/\
    codeAny M A (.compStart e 0 it acc {cenv with scope:=relabel c Z}) (qc M A E l Q acc Z cenv.locals) w) E v) E t) E q) E s):
 wpAny M A (comprehension e c Z T n false first l) Q E s:=by
 unfold comprehension
 rw[C,O]
 refine wpAny_bind (wpAny_mono h (λx q o=>wpAny_bind (wpAny_standAt (wpAny_bind (wpAny_of_eq (hs x) (wpAny_bind (wpAny_holding (wpAny_mono o (λit t p=>
  wpAny_standIf (wpAny_bind (wpAny_mono p (λacc v H=>wpAny_bind (wpAny_pure (wpAny_bind (wpAny_mono H (λcenv w a=>?_) λ_ _ B=>B)))) λ_ _ B=>B)))
   λ_ _ B=>B))))))) λ_ _ B=>B)
 clear h o p
 obtain⟨P,a⟩:=a
 dsimp only
 have L:∀x∈(c.names.filter λx=>(x.2==.local||x.2==.cell)&&x.1 !=(".0":Str)).reverse,x.2=.local->
  Env.kindOf {cenv with scope:=relabel c Z} x.1=some .local:=λx S K=>lookup_relabel_local (i x (List.mem_filter.mp (List.mem_reverse.mp S)).1 K)
 have R:∀x∈(c.names.filter λx=>(x.2==.local||x.2==.cell)&&x.1 !=(".0":Str)).reverse.drop 1++(c.names.filter λx=>(x.2==.local||x.2==.cell)&&x.1 !=(".0":Str)).reverse.take 1,
  x.2=.local->Env.kindOf {cenv with scope:=relabel c Z} x.1=some .local:=λx S K=>by
  rcases List.mem_append.mp S with N|N
  ·exact L x (List.mem_of_mem_drop N) K
  ·exact L x (List.mem_of_mem_take N) K
 refine wpAny_holding (wpAny_bind (wpAny_attempt (wpAny_holding (wpAny_run (codeAny_mono a λr I D=>?_)))))
 clear a
 cases r with
 |ok f=>
  cases l with
  |none=>
   obtain⟨m,F,D⟩:=D
   exact wpAny_bind (wpAny_holding (wpAny_comp_letGo (cenv:={cenv with scope:=relabel c Z}) k _ I m L F λB m' _ d=>wpAny_pure (D B d)))
  |some u=>
   refine wpAny_bind (wpAny_rule (wpAny_bind (wpAny_holding (wpAny_mono D (λ_ V b=>?_) λ_ _ B=>B))))
   obtain⟨m,F,b⟩:=b
   exact wpAny_bind (wpAny_comp_letGo (cenv:={cenv with scope:=relabel c Z}) k _ V m R F λB m' _ d=>wpAny_pure (b B d))
 |error x=>
  have b:∃m,I.heap.Ns cenv.locals m/\∀B,Heap.SameBut cenv.locals I.heap B->wpAny M A (PySem.passOn "comprehension.variables-let-go" x Z:Sem Value) (λ_ _=>False) E {I with heap:=B}:=by cases l<;>exact D
  obtain⟨m,F,D⟩:=b
  refine wpAny_bind (wpAny_holding (wpAny_comp_letGo (cenv:={cenv with scope:=relabel c Z}) k _ I m L F λB m' _ d=>?_))
  have:=D B d
  rw[Ac (env':={cenv with scope:=relabel c Z}) P.symm] at this
  exact wpAny_mono this (λ_ _ f=>f.elim) λ_ _ y=>y
end
section
variable{J:Program}{w:World}{H:Heap}{F:List Env}{L C:Addr}{X ρ₁ j:List Addr}{G z:Hp}{loc locC loc':List (Str×V)}{h B h'':Heap}
variable{M:Model}{A:Around}{E:Value->Shared->Prop}{s:Shared}{Z:Env}{Y en':En}{T:Tb}{K:Frag}{cls:Value}{n:Nat}{Fn:Fs}{e:Addr}
theorem Ae(x:bV F C X h j B)(d:h.get? C=none):bV F L X h j B:=by
 have n:∀b o,h.get? b=some o->b≠C:=λb o e q=>by rw[q,d] at e;ext e
 exact⟨x.pre,x.new,λb o a f c e=>x.keep b o a (n b o e) c e,λb o a f c e=>x.gk b o a (n b o e) c e⟩
theorem tK(S:Sg J w H F L X G loc h)(c:h.get? C=none)(x:bV F C X h j B):L∉j/\∃m,B.Ns L m/\LR j loc m:=by
 obtain⟨m,n,l⟩:=S.loc
 obtain⟨g,a,f⟩:=eP n
 have e:L≠C:=λq=>by rw[q,c] at a;ext a
 refine⟨λq=>?_,m,?_,λy=>(l y).pre x.pre⟩
 ·rcases x.new L q with k|k
  ·exact S.b6 k
  ·rw[k] at a;ext a
 ·obtain⟨o,s,p,b,d,r⟩:=n
  by_cases q:L∈b7 F
  ·obtain⟨i,t⟩:=x.gk L o S.b6 e q b
   exact⟨_,s,p,t,d,r⟩
  ·exact⟨o,s,p,x.keep L o S.b6 e q b,d,r⟩
theorem Af(S:Sg J w H F L X G loc h)(b:h.get? C=none)(x:bV F C X h j B)(a:Sg J w H F C j z locC B):Sg J w H F L j z loc B:=by
 obtain⟨l,c⟩:=tK S b x
 exact⟨a.keep,a.off,a.nd,a.len,a.live,a.cell,S.eO,l,S.above,c,a.ff,a.dN⟩
theorem Ag{A:Value}{g:Addr}(S:Sg J w H F L X G loc s.heap)(I:s.heap.get? C=none)(m:C∉b7 F)(ag:cW J w H F C X s cls z locC j B e)(hs:Heap.SameBut C B h''){af:Heap}
 (b1:H.StaysIn af)(b2:Heap.HeldW af F e cls A g B)(b3:∀(i:Nat) (o:O) (a:Addr),z.get i=some o->j[i]? =some a->∃f,af.get? a=some f/\OR J w j o f)(b4:∀a∈j,∃f,af.get? a=some f)
 (b5:∀b o,b∉X->b≠C->b∉b7 F->s.heap.get? b=some o->af.get? b=some o)(hf:∃N u,F=N::u/\N.frame=some g):
 ∃B',Heap.HeldW B' F e cls A g h''/\(∀h,Heap.HeldW B' F e cls A g h->h''.UpToSlots h->cW J w H F L X s cls z loc j h e):=by
 have Q:H.get? C=none:=by
  cases q:H.get? C with
  |none=>rfl
  |some o=>have:=S.keep C o q;rw[I] at this;ext this
 obtain⟨_,x2,x3,x4,x5,x6,x7,x8,x9,ae⟩:=ag
 obtain⟨mC,nC,lC⟩:=x9
 obtain⟨oC,t,v⟩:=eP nC
 obtain⟨k1,k2,k3,oe,vs,T,oT,ts,W,l,hd,P,aa,V,R,p,h⟩:=b2
 have eC:e≠C:=λq=>by rw[q,t] at W;ext W;exact v _ hd
 have tC:T≠C:=λq=>by rw[q,t] at R;ext R;exact v _ p
 have k:∀b o,b≠C->B.get? b=some o->h''.get? b=some o:=λb o n q=>(hs.2 b n).trans q
 have D:∀b o,(hideAll af [C]).get? b=some o->b≠C/\af.get? b=some o:=λb o q=>(And.intro (λah=>by(rw[ah,hideAll_none [C] (.head _)] at q;ext q)) (of_hideAll _ q))
 have E:∀b o,b≠C->af.get? b=some o->(hideAll af [C]).get? b=some o:=λb o n q=>hideAll_get _ q λah=>n (List.mem_singleton.mp ah)
 have c:∀b,af.get? b=none->(hideAll af [C]).get? b=none:=λb q=>by
  cases ah:(hideAll af [C]).get? b with
  |none=>rfl
  |some o=>rw[(D b o ah).2] at q;ext q
 have d:∀b o,s.heap.get? b=some o->b≠C:=λb o ah q=>by rw[q,I] at ah;ext ah
 have hH:H.StaysIn (hideAll af [C]):=λb o q=>E b o (λah=>by rw[ah,Q] at q;ext q) (b1 b o q)
 have ff:h''.FunFrames (hideAll af [C]) F:=gh (funFrames_base (λb o q=>(D b o q).2) k3) λa K o q nf=>⟨o,k a o (λah=>m (ah▸K)) q,nf⟩
 clear m
 have r:Heap.HeldW (hideAll af [C]) F e cls A g h'':=⟨λb o q=>k b o (D b o q).1 (k1 b o (D b o q).2),c _ k2,ff,oe,vs,T,oT,ts,k _ _ eC W,l,hd,P,c _ aa,V,k _ _ tC R,p,h⟩
 clear l
 have st:bV F C X s.heap j B:=⟨x3,x4,λb o P h2 h q=>k1 _ _ (b5 b o P h2 h q),x2⟩
 obtain⟨o1,m1,n1,l1⟩:=tK S I st
 clear st
 refine⟨_,r,λh hh hu=>⟨⟨hideAll af [C],hH,?_,λi o a x q2=>?_,λa K=>?_,λb o x _ M ah=>E b o (d b o ah) (b5 b o x (d b o ah) M ah)⟩,λb o x _ M ah=>?_,x3,x4,x5,x6,x7,o1,?_,ae⟩⟩
 ·obtain⟨N,u,rfl,hf⟩:=hf
  exact iJ hf hh
 ·obtain⟨f,y,z2⟩:=b3 i o a x q2
  exact⟨f,E _ _ (λah=>x8 (ah▸List.mem_of_getElem? q2)) y,z2⟩
 ·obtain⟨f,y⟩:=b4 a K
  exact⟨f,E _ _ (λah=>x8 (ah▸K)) y⟩
 ·obtain⟨sl,y⟩:=x2 b o x (d b o ah) M ah
  clear x2
  obtain⟨ab,z2⟩:=hu b _ (k b _ (d b o ah) y) (by
   obtain⟨_,o',e',nf⟩:=S.ff.mem M
   clear S
   rw[ah] at e';ext e'
   clear ah
   exact nf)
  clear S ah
  exact⟨ab,z2⟩
 ·refine⟨m1,hu.ns (n1.at' λo ah=>k _ _ (λq=>?_) ah),l1⟩
  clear ah
  obtain⟨mL,nL,_⟩:=S.loc
  clear S
  obtain⟨oL,eL,_⟩:=eP nL
  rw[q,I] at eL;ext eL
noncomputable def gm(Z:Env):List (Str×NameKind)->List (Str×Addr)->List (Str×Addr)
 |[],cs=>cs
 |p::r,cs=>gm Z r (if p.2==.free then(p.1,(Z.cells.lookup p.1).getD 0)::cs else cs)
theorem Ah{Z:Env}(n:List (Str×NameKind))(cs:List (Str×Addr))(h:∀p∈n,p.2=.free->(Z.cells.lookup p.1).isSome=true):
 (forIn n cs λ(x:Str×NameKind) (cs:List (Str×Addr))=>if(x.2==NameKind.free)=true then do let a←PySem.cellOf Z x.1;pure (ForInStep.yield ((x.1,a)::cs)) else pure (ForInStep.yield cs):Sem (List (Str×Addr)))=pure (gm Z n cs):=by
 induction n generalizing cs with
 |nil=>rfl
 |cons p r i=>
  rw[List.forIn_cons]
  have i:=λcs=>i cs λq c=>h q (.tail _ c)
  unfold gm
  cases k:p.2==NameKind.free with
  |false=>simp only[Bool.false_eq_true,if_false];rw[←i];rfl
  |true=>
   have b:=h p (.head _) (beq_iff_eq.mp k)
   clear k
   simp only[if_true]
   cases l:Z.cells.lookup p.1 with
   |none=>rw[l] at b;ext b
   |some a=>
    have:PySem.cellOf Z p.1=pure a:=by unfold PySem.cellOf;rw[l]
    rw[this,←i]
    rfl
theorem Ai{Z:Env}{s:Scope}(h:∀p∈s.names,p.2=.free->(Z.cells.lookup p.1).isSome=true):closureFor s Z=pure (gm Z s.names []):=by
 unfold closureFor
 have:=Ah (Z:=Z) s.names [] h
 first
  |(rw[←this];rfl)
  |(simp only[bind_pure];exact this)
theorem Aj{Z:Env}{x:Str}(n:List (Str×NameKind))(cs:List (Str×Addr))(h:cs.lookup x=some ((Z.cells.lookup x).getD 0)\/(x,NameKind.free)∈n):(gm Z n cs).lookup x=some ((Z.cells.lookup x).getD 0):=by
 induction n generalizing cs with
 |nil=>exact h.elim id λh=>nomatch h
 |cons p r i=>
  unfold gm
  refine i _ ?_
  obtain⟨a,b⟩:=p
  rcases h with h|h
  ·refine .inl ?_
   cases k:b==NameKind.free with
   |false=>exact h
   |true=>
    clear k
    simp only[if_true]
    rw[List.lookup_cons]
    cases q:x==a with
    |true=>rw[beq_iff_eq.mp q]
    |false=>exact h
  ·cases h with
   |head=>refine .inl ?_;simp[List.lookup_cons]
   |tail c h=>exact .inr h
theorem Ak{x:Str}{s:List (Str×NameKind)}(h:(match lk x s with|some .cell=>true|_=>false)=true):s.lookup x=some .cell:=by
 rw[dr] at h
 split at h
 ·assumption
 ·ext h
theorem tL{s:Scope}(h:i6 Y s=true):s.kind=.function/\∀p∈s.names,(p.2=.free->Y.sc.lookup p.1=some .cell/\(Y.bF.lookup p.1).isSome=true)/\p.2≠.cell/\(p.2=.local->s.names.lookup p.1=some .local):=by
 unfold i6 at h
 obtain⟨a,c⟩:=Bool.and_eq_true_iff.mp h
 have k:s.kind=.function:=by
  split at a
  ·assumption
  ·ext a
 refine⟨k,λp b=>?_⟩
 have:=List.all_eq_true.mp c p b
 clear b
 obtain⟨f,d⟩:=p
 dsimp only at this⊢
 cases d with
 |free=>
  obtain⟨e,q⟩:=Bool.and_eq_true_iff.mp this
  rw[dr (l:=Y.bF)] at q
  exact⟨λi=>⟨Ak e,q⟩,(by decide),(λg=>nomatch g)⟩
 |cell=>ext this
 |«local»=>
  refine⟨(λg=>nomatch g),by decide,λi=>?_⟩
  dsimp only at this
  split at this
  ·rename_i g
   rw[dr] at g
   exact g
  ·ext this
 |_=>exact⟨(λg=>nomatch g),by decide,(λg=>nomatch g)⟩
theorem Al{s:Scope}(N:bG Z Y F L X):(relabel s Z).names=bM Y s:=by
 unfold relabel bM
 refine List.map_congr_left λp b=>?_
 clear b
 obtain⟨a,c⟩:=p
 have h:Z.kindOf a=Y.sc.lookup a:=by show Z.scope.names.lookup a=_;rw[N.names]
 dsimp only
 rw[h,N.kind,dr]
 cases c with
 |free=>
  dsimp only
  cases Y.sc.lookup a with
  |none=>rfl
  |some k=>cases k<;>rfl
 |_=>rfl
theorem Am{x:Str}{Y:En}{n:List (Str×NameKind)}(a:∀p∈n,p.2≠.cell)
 (h:(n.map λp=>match p.2 with|.free=>(p.1,match lk p.1 Y.sc with|some .cell=>NameKind.cell|_=>.free)|k=>(p.1,k)).lookup x=some .cell):(x,NameKind.free)∈n:=by
 induction n with
 |nil=>ext h
 |cons p r i=>
  obtain⟨b,d⟩:=p
  rw[List.map_cons] at h
  have c:=a (b,d) (.head _)
  dsimp only at h c
  have i:=i λq e=>a q (.tail _ e)
  clear a
  cases d with
  |cell=>exact absurd rfl c
  |free=>
   dsimp only at h
   rw[List.lookup_cons] at h
   cases q:x==b with
   |true=>rw[beq_iff_eq.mp q];exact .head _
   |false=>rw[q] at h;exact .tail _ (i h)
  |_=>
   dsimp only at h
   rw[List.lookup_cons] at h
   cases q:x==b with
   |true=>rw[q] at h;ext h
   |false=>rw[q] at h;exact .tail _ (i h)
theorem tM{s:Scope}(N:bG Z Y F L X)(u:i6 Y s=true):closureFor s Z=pure (gm Z s.names [])/\
 ∀cenv:Env,cenv.locals=C->cenv.globals=Z.globals->cenv.builtins=Z.builtins->cenv.frame=Z.frame->cenv.cells=gm Z s.names []->bG {cenv with scope:=relabel s Z} ⟨bM Y s,[],Y.bF⟩ F C X:=by
 obtain⟨e,d⟩:=tL u
 refine⟨Ai λp h v=>?_,λcenv k l n r t=>⟨e,Al N,k,l.trans N.glob,n.trans N.blt,?_,λx i c b=>?_⟩⟩
 ·obtain⟨c,b⟩:=(d p h).1 v
  cases q:Y.bF.lookup p.1 with
  |none=>rw[q] at b;ext b
  |some i=>
   obtain⟨a,I,H⟩:=N.cells _ _ c q
   rw[H];rfl
 ·obtain⟨g,o,f,c,b,w⟩:=N.fr
  exact⟨g,o,f,c,b,r.trans w⟩
 ·have m:=Am (λp h=>(d p h).2.1) c
  obtain⟨D,E⟩:=(d _ m).1 rfl
  obtain⟨a,y,A⟩:=N.cells _ _ D b
  refine⟨a,y,?_⟩
  show cenv.cells.lookup x=_
  rw[t,Aj _ _ (.inr m),A]
  rfl
end
open PySem.SeqAt PySem.MeetsSeq
section
variable(J:Program)(w:World)(H:Heap)(cls:Value)
noncomputable def jW(n:Nat)(f:En->List Expr->Hp->Option (R Bool)):Prop:=
 ∀{A:Around} {F:List Env} {L:Addr} {X:List Addr} {Z:Env} {Y:En} {G:Hp} {s:Shared} {i:List Expr} {r:R Bool} {Q:Bool->Shared->Prop} {E:Value->Shared->Prop},
  Rm A F n->Sg J w H F L X G Y.loc s.heap->bG Z Y F L X->f Y i G=some r->K1 J w H F L X Y.loc s cls (λa v b=>v=b) r Q E->
  wpAny (model J w) A (forIn i true λc r=>if r=true then do let o←isTrue c Z (eval c Z);pure (ForInStep.yield o) else pure (ForInStep.yield r)) Q E s
end
section
variable{J:Program}{w:World}{H:Heap}{F:List Env}{L C D I:Addr}{X ρ₁ j:List Addr}{G z:Hp}{loc locC loc':List (Str×V)}{h B h'':Heap}
variable{M:Model}{A:Around}{E:Value->Shared->Prop}{s:Shared}{Z cenv:Env}{Y en':En}{T:Tb}{K:Frag}{cls:Value}{n:Nat}{Fn:Fs}{e:Addr}
theorem An(t:hU J w H cls n Fn.ev):jW J w H cls (n+1) (jK T Fn):=by
 intro A F L X Z Y G s i r Q E R S N e k
 unfold jK at e
 split at e
 ·ext e
  exact wpAny_tests_nil (Norm.now (P:=λo b=>true=b) k S rfl s.toks)
 ·split at e
  ·rename_i c
   refine wpAny_tests_one ?_
   rcases jg e with⟨v,d,a,f⟩|⟨d,a,rfl⟩
   ·clear e
    obtain⟨b,h,rfl⟩:=map_some f
    clear f
    refine t (R.le (by lia)) S N a (λm z q=>by ext q;exact⟨b,h⟩) ?_
    intro j B tk y l g p
    have p:truth v=some y:=p
    rw[h] at p;ext p
    exact k j B tk b l g rfl
   ·exact t (R.le (by lia)) S N a (λm z q=>by ext q) k
  ·ext e
noncomputable def Ao(J:Program)(w:World)(H:Heap)(F:List Env)(C:Addr)(X:List Addr)(s:Shared)(cls:Value)(D:Addr)(r:R (List V))(E:Value->Shared->Prop)(RR:Result->Shared->Prop):Prop:=match r with
 |.ok v z=>∀j B tk locC ys k,bV F C X s.heap j B->Sg J w H F C j z locC B->OffI H F C j D->IsL B D ys k->All2 (VR j) v.reverse ys.toList->RR (.ok .next) {s with heap:=B,toks:=tk}
 |.exc z=>∀locC,Exc J w H F C X s cls z locC E
inductive qd(J:Program)(w:World)(T:Tb)(H:Heap)(F:List Env)(C:Addr)(X:List Addr)(s:Shared)(sc:List (Str×NameKind))(bF:List (Str×Nat))(elt:Expr)(x:Str)(ifs:List Expr)(src:Src)(I D:Addr)(r:R (List V))(n m:Nat)(s':Shared):Prop
 |mk (hm:m<=n) (i out z locC j B tk ys k) (e:s'={s with heap:=B,toks:=tk}) (st:bV F C X s.heap j B) (S:Sg J w H F C j z locC B) (xi:eR j src I i B) (O:OffI H F C j I) (OD:OffI H F C j D) (l:IsL B D ys k) (a:All2 (VR j) (List.reverse out) ys.toList)
  (e2:(run T m).comp ⟨sc,locC,bF⟩ elt x ifs src i out z=some r):qd J w T H F C X s sc bF elt x ifs src I D r n m s'
theorem Ap{g it:Expr}{x:Str}{px aH:Pos}{h:List Expr}{af:Scope}{sc:List (Str×NameKind)}{l:List (Str×Nat)}{d:Src}{r:R (List V)}{RR:Result->Shared->Prop}{s':Shared}
 (aM:Gd J w T K H)(IH:∀m,m<n->cw J w H cls m (run T m).ev/\jW J w H cls m (run T m).tests)(ae:Rm A F n)(N:bG cenv ⟨sc,[],l⟩ F C X)(aD:s.heap.get? I=none)(aC:s.heap.get? D=none)(ai:D≠I)
 (h0:qd J w T H F C X s sc l g x h d I D r n n s')
 (k:Ao J w H F C X s cls D r (notedBy (model J w) A cenv λe s'=>RR (.error e) s') RR):
 codeAny (model J w) A (.compLoop (.ListComp g [⟨.Name x px,it,h,0⟩] af aH) 0 (.ref I) (.ref D) cenv) RR s':=by
 refine codeAny_compLoop_tests (qd J w T H F C X s sc l g x h d I D r n) ?_ n h0
 clear h0
 rintro m aI ⟨hm,i,out,ab,f,E,h2,t2,ys,kk,rfl,av,S2,x2,O2,O,l2,a2,e2⟩
 cases m with
 |zero=>ext e2
 |succ m=>
  obtain⟨aj,au⟩:=IH m (by lia)
  have aa:Rm A F m:=ae.le (by lia)
  have N2:bG cenv ⟨sc,f,l⟩ F C E:=(N.pre av.pre).jh
  obtain⟨ov,hn,e3⟩:=Option.bind_eq_some_iff.mp (show(cz T ab d i).bind (λo=>mr (run T m) ⟨sc,f,l⟩ g x h d i out o ab)=some r from e2)
  clear e2
  refine tG (s:={s with heap:=h2,toks:=t2}) ae.2.1 aM S2 x2 O2 hn λh3 t3 hk=>?_
  clear hn
  have S3:Sg J w H F C E ab f h3:=S2.but O2 hk
  have aw:bV F C X s.heap E h3:=av.but aD hk
  have l3:IsL h3 D ys kk:=hk D _ ai l2
  cases ov with
  |none=>
   ext e3
   exact k E h3 t3 f ys kk aw S3 O l3 a2
  |some v=>
   intro y hy x3
   dsimp only
   rw[arm_assign_Name]
   obtain⟨⟨c,aK⟩,e4,e3⟩:=Option.bind_eq_some_iff.mp (show(bZ ⟨sc,f,l⟩ ab x v).bind (λp=>bd ((run T m).tests p.1 h p.2) (i_ (run T m) p.1 g x h d i out))=some r from e3)
   ·refine wpAny_bind (wpAny_standAt (wpAny_bindName (ji (s:={s with heap:=h3,toks:=t3}) S3 N2 e4 hy λh4 t4 S4 P4 N4=>?_)))
    have ar:=td e4
    clear e4
    have P:∀b o,b∉E->b≠C->h3.get? b=some o->h4.get? b=some o:=λb o q1 q2 aN=>P4.keep b o q1 (λaN=>q2 (List.mem_singleton.mp aN)) aN
    have l4:IsL h4 D ys kk:=P _ _ O.cell O.loc l3
    have x4:eR E d I (i+1) h4:=x3.keep (List.prefix_refl _) λo aN=>P _ _ O2.cell O2.loc aN
    have ay:bV F C X s.heap E h4:=aw.trans (P4.toF λa ha=>List.mem_singleton.mp ha) S4.b6
    obtain⟨oI,aG⟩:=mZ x4
    rcases jg e3 with⟨b,ag,e5,e6⟩|⟨ag,e5,rfl⟩
    ·clear e3
     refine au (s:={s with heap:=h4,toks:=t4}) aa S4 N4 e5 ?_
     clear e5 S4
     intro S h5 t5 y5 t S5 p5
     ext p5
     have M:OffI H F C S I:=O2.pre t aG
     have L:OffI H F C S D:=O.pre t l4
     have l5:IsL h5 D ys kk:=t.keep _ _ O.cell O.loc O.fr l4
     have x5:eR S d I (i+1) h5:=x4.keep t.pre λo aN=>t.keep _ _ O2.cell O2.loc O2.fr aN
     have Q:bV F C X s.heap S h5:=ay.trans t S5.b6
     cases b with
     |false=>
      clear N4
      rw[if_neg (by decide)]
      refine⟨m,Nat.lt_succ_self _,by lia,i+1,out,ag,c.loc,S,h5,t5,ys,kk,rfl,Q,S5,x5,M,L,l5,a2.mono λ_ _ q=>q.pre t.pre,?_⟩
      clear S5
      have aF:(⟨sc,c.loc,l⟩:En)=c:=by obtain⟨z1,z2⟩:=ar;ext c;simp only at z1 z2;rw[z1,z2]
      rw[aF];exact e6
     |true=>
      rw[if_pos rfl]
      have e6:(if bS out.length then bd ((run T m).ev c g ag) λy G=>(run T m).comp c g x h d (i+1) (y::out) G else .none)=some r:=e6
      split at e6
      case isFalse=>ext e6
      rename_i ao
      have ao:=d8.mp ao
      rcases jg e6 with⟨v6,aA,e7,e8⟩|⟨aA,e7,rfl⟩
      ·clear e6
       refine aj (s:={s with heap:=h5,toks:=t5}) aa S5 (N4.pre t.pre) e7 ?_
       clear S5 e7 N4
       intro W h6 t6 y6 u S6 p6
       obtain⟨aJ,aq⟩:=mZ x5
       have aB:OffI H F C W I:=M.pre u aq
       have ah:OffI H F C W D:=L.pre u l5
       have l6:IsL h6 D ys kk:=u.keep _ _ L.cell L.loc L.fr l5
       have x6:eR W d I (i+1) h6:=x5.keep u.pre λo aN=>u.keep _ _ M.cell M.loc M.fr aN
       have az:bV F C X s.heap W h6:=Q.trans u S6.b6
       have ak:ys.size<=sizeLine:=by
        have:=a2.length
        simp only[List.length_reverse,Array.length_toList] at this
        unfold sizeLine;lia
       refine call_meets (s:={s with heap:=h6,toks:=t6}) PySem.F.slot_list_append l6.isList.typeIs PySem.F.entry_list_append (PySem.F.args_list_append_2 _ _) (list_append D ys kk _ ak) ⟨l6,?_⟩
       have hb:∀b o,b≠D->h6.get? b=some o->(h6.update D (Obj.mapSeq λxs=>xs.push y6)).get? b=some o:=λb o q aN=>(Heap.get?_update_other _ _ (Ne.symm q)).trans aN
       obtain⟨k7,l7⟩:∃k7,IsL (h6.update D (Obj.mapSeq λxs=>xs.push y6)) D (ys.push y6) k7:=⟨_,Heap.get?_update_self _ l6 rfl⟩
       refine⟨m,Nat.lt_succ_self _,by lia,i+1,v6::out,aA,c.loc,W,_,t6,ys.push y6,k7,rfl,az.but aC hb,S6.but ah hb,x6.keep (List.prefix_refl _) λo aN=>hb _ _ (Ne.symm ai) aN,aB,ah,l7,?_,?_⟩
       ·rw[List.reverse_cons,Array.toList_push]
        exact(a2.mono λ_ _ q=>q.pre (t.pre.trans u.pre)).append (.cons p6 .nil)
       ·rw[←e8]
        have:(⟨sc,c.loc,l⟩:En)=c:=by obtain⟨z1,z2⟩:=ar;ext c;simp only at z1 z2;rw[z1,z2]
        rw[this]
      ·refine aj (s:={s with heap:=h5,toks:=t5}) aa S5 (N4.pre t.pre) e7 ?_
       clear S5 e7 N4
       exact Exc.move Q (k c.loc)
    ·refine au (s:={s with heap:=h4,toks:=t4}) aa S4 N4 e5 ?_
     clear e5 S4 N4
     exact Exc.move ay (k c.loc)
theorem cW.Aq(p:s.heap.FunFrames H F){B h'':Heap}{e:Addr}(Q:cW J w H F L X s cls z loc' j B e)
 (T:∃P,H.StaysIn P/\fS cls P F e h''/\(∀(i:Nat) (o:O) (a:Addr),z.get i=some o->j[i]? =some a->∃c,P.get? a=some c/\OR J w j o c)/\(∀a∈j,∃c,P.get? a=some c)/\
   ∀b o,b∉X->b≠L->b∉b7 F->s.heap.get? b=some o->P.get? b=some o)(u:B.UpToSlots h''):cW J w H F L X s cls z loc' j h'' e:=by
 obtain⟨R,v,y,A,C,D,E,I,K,x⟩:=Q
 refine⟨T,λb o q r h e=>?_,y,A,C,D,E,I,?_,x⟩
 ·obtain⟨N,g⟩:=v b o q r h e
  obtain⟨d,k⟩:=u b _ g (by
   obtain⟨R,M,f,t⟩:=p.mem h
   rw[e] at f;ext f
   exact t)
  exact⟨d,k⟩
 ·obtain⟨m,n,l⟩:=K
  exact⟨m,u.ns n,l⟩
theorem tN{M:Model}{P:Type}{t:String}{R:Heap}{e L:Addr}{w:Value}(D:Z.frame=some L)(x:Heap.HeldW R F e cls w L s.heap)
 (C:∀B,Heap.HeldW R F e cls w L B->s.heap.UpToSlots B->E (.ref e) {s with heap:=B}):wpAny M A (PySem.passOn t (.ref e) Z:Sem P) (λS V=>False) E s:=by
 obtain⟨I,K,N,O,v,T,Q,ts,u,l,r,m,k,i,p,d,y⟩:=x
 have c:3<ts.size:=(Array.getElem?_eq_some_iff.mp y).1
 have h:∀b,b≠T->(s.heap.update T (Obj.mapFields (·.setIfInBounds 3 (rawInt L)))).get? b=s.heap.get? b:=λb a=>Heap.get?_update_other _ _ (Ne.symm a)
 have n:∀b o,s.heap.get? b=some o->(∀v,o.data≠.fields v)->b≠T:=λb o a g q=>by
  rw[q,p] at a;injection a with a;subst a;exact g ts d
 unfold PySem.passOn
 refine wpAny_bind (wpAny_field u r m ?_)
 rw[if_neg (by simp)]
 rw[D]
 unfold setFlight
 refine wpAny_bind (wpAny_bind (wpAny_field u r m ?_))
 rw[if_pos (show(Value.ref T !=Value.none)=true from by simp)]
 refine wpAny_setField p d c (wpAny_throw (C _ ⟨λb o f=>(h b λq=>by rw[q,k] at f;ext f).trans (I b o f),K,N.of_keeps λb o a g=>⟨o,(h b (n b o a g)).trans a,rfl⟩,?_⟩ λb o a H=>⟨o.slots,(h b (n b o a H)).trans a⟩))
 exact⟨O,v,T,_,_,(h e (Ne.symm i)).trans u,l,r,m,k,i,Heap.get?_update_self _ p (Obj.isFreed_of_fields (Obj.data_mapFields d _)),Obj.data_mapFields d _,by simp[c]⟩
theorem Ar{r:Src}{i:Nat}{Q:Value->Shared->Prop}(x:eR X r I i s.heap)(h:Q (.ref I) s):wpAny (model J w) A (pyIter (.ref I)) Q E s:=by
 cases r with
 |lst l=>obtain⟨a,d,b⟩:=x;exact wpAny_pyIter_listiter b h
 |tup v=>obtain⟨t,d,b⟩:=x;exact wpAny_pyIter_tupleiter b h
 |cY a c n=>exact wpAny_pyIter_rangeiter (show IsRangeIter s.heap I _ _ _ from x) h
theorem jX{h:Heap}{I:Addr}:∀b o,b≠I->h.get? b=some o->(hideAll h [I]).get? b=some o:=λb o n q=>hideAll_get _ q λa=>n (List.mem_singleton.mp a)
theorem m4{h:Heap}{I:Addr}{b:Addr}{o:Obj}(q:(hideAll h [I]).get? b=some o):h.get? b=some o:=of_hideAll _ q
theorem tO{h:Heap}{I b:Addr}(q:h.get? b=none):(hideAll h [I]).get? b=none:=by
 cases a:(hideAll h [I]).get? b with
 |none=>rfl
 |some o=>rw[m4 a] at q;ext q
theorem As{v:List V}{ys:Array Value}{k:Nat}(S:Sg J w H F L X G loc h)(O:OffI H F L X D)(l:IsL h D ys k)(c:All2 (VR X) v ys.toList):
 Sg J w H F L (X++[D]) (G.push (.list v)) loc h/\Step X [] (hideAll h [D]) (X++[D]) h/\VR (X++[D]) (.ref G.length) (.ref D):=by
 have S0:Sg J w H F L X G loc (hideAll h [D]):=S.but O jX
 obtain⟨S1,P⟩:=S0.grow (a:=D) (o:=.list v) (ob:={cls:=.type "list",dict:=none,data:=.seq ys k,slots:= #[]}) (h':=h) (λb o q=>m4 q) (hideAll_none [D] (.head _)) l
  ⟨ys,k,rfl,c.mono λd e q=>q.pre (List.prefix_append ..)⟩
 exact⟨S1,P,D,by rw[←S.len];simp,rfl⟩
theorem tP{use:Option (Value->Sem Unit)}{Q0:Value->Shared->Prop}{t it:Expr}{x:Str}{px a4 aq:Pos}{i:List Expr}{d:Scope}{r:R V}
 (ba:Gd J w T K H)(hv:cw J w H cls n (run T n).ev)(hs:ez J w H cls n (run T n).bL)(IH:∀m,m<n->cw J w H cls m (run T m).ev/\jW J w H cls m (run T m).tests)
 (Q:Rm A F n)(S:Sg J w H F L X G Y.loc s.heap)(N:bG Z Y F L X)(aC:cZ it=true)(e:gI T (run T n) Y t x it i d G=some r)
 (hx:∀z,r=.exc z->Exc J w H F L X s cls z Y.loc E)
 (hq:∀{v:V} {z:Hp} {j:List Addr} {B:Heap} {tk:Nat} {D C:Addr},r=.ok v z->bV F L X s.heap j B->Sg J w H F L j z Y.loc B->VR j v (.ref D)->OffI H F L j C->s.heap.get? C=none->(∃m,B.Ns C m)->
   qc (model J w) A E use Q0 (.ref D) Z C (.ok .next) {s with heap:=B,toks:=tk}):
 wpAny (model J w) A (comprehension (.ListComp t [⟨.Name x px,it,i,0⟩] d aq) d Z a4 (newList []) false (eval it Z) use) Q0 E s:=by
 unfold gI at e
 split at e
 case isFalse=>ext e
 rename_i hc
 obtain⟨az,W⟩:=tM (C:=s.heap.objs.size) N hc
 obtain⟨c1,c2⟩:=tL hc
 refine Ad (g:=⟨.Name x px,it,i,0⟩) (gs:=[]) rfl (tJ aC) az c1 (λp hp hl=>(c2 p hp).2.2 hl) ?_
 obtain⟨ri,aj⟩:∃ri,items T (run T n) Y it G=some ri:=by
  cases bc:items T (run T n) Y it G with
  |none=>rw[bc] at e;ext e
  |some ri=>exact⟨ri,rfl⟩
 refine tI ba hv hs Q S N aj (λz hr=>?_) λ{ak P c h t1 I} hr ao S1 x1 O1 f1=>?_
 ·subst hr
  rw[aj] at e
  ext e
  exact hx z rfl
 subst hr
 rw[aj] at e
 have e:(bd ((run T n).comp ⟨bM Y d,[],Y.bF⟩ t x i ak 0 [] P) λvs G=>some (R.ok (V.ref G.length) (G.push (.list vs.reverse))))=some r:=e
 clear aj
 refine wpAny_newObj_type (wpAny_newFunctionEnv (λp hp=>(c2 p hp).2.1) (by intro y hy;simp at hy) (λh2 n2 af=>?_) c1)
 dsimp only at n2 af⊢
 refine⟨rfl,?_⟩
 generalize hH:h.push {cls:=.type "list",dict:=none,data:=.seq ([]:List Value).toArray}=hp at n2 af⊢
 have aW:hp.objs.size=h.objs.size+1:=by rw[←hH,Heap.size_push]
 generalize aN:hp.objs.size=C at n2 af⊢
 have ai:C=h.objs.size+1:=aN.symm.trans aW
 have ah:h.get? C=none:=by
  cases q:h.get? C with
  |none=>rfl
  |some o=>exact absurd (Heap.lt_size q) (by rw[ai];exact Nat.not_lt.mpr (Nat.le_succ _))
 have aw:h.get? h.objs.size=none:=jf _
 have av:h.objs.size≠C:=by rw[ai];exact Nat.ne_of_lt (Nat.lt_succ_self _)
 have f:∀b o,h.get? b=some o->h2.get? b=some o:=λb o q=>af.extBut b o (λbc=>by rw[bc,ah] at q;ext q) (Heap.get?_push_of_some _ (hH▸Heap.get?_push_of_some _ q))
 have l2:IsL h2 h.objs.size #[] 0:=af.extBut _ _ av (Heap.get?_push_of_some _ (hH▸Heap.get?_push_size _ rfl))
 obtain⟨S2,P2⟩:=S1.more f
 have O:OffI H F L c C:=OffI.fresh S1 ah
 have ag:OffI H F L c h.objs.size:=OffI.fresh S1 aw
 obtain⟨u,M⟩:∃u,u=hideAll h [I]:=⟨_,rfl⟩
 have Sb:Sg J w H F L c P Y.loc u:=by rw[M];exact S1.but O1 jX
 have aF:bV F L X s.heap c u:=by rw[M];exact ao.but f1 jX
 have ay:u.get? C=none:=by rw[M];exact tO ah
 have aP:u.get? h.objs.size=none:=by rw[M];exact tO aw
 have aQ:u.get? I=none:=by rw[M];exact hideAll_none [I] (.head _)
 have ab:∀b o,u.get? b=some o->h2.get? b=some o:=λb o q=>f b o (by rw[M] at q;exact m4 q)
 have SC:Sg J w H F C c P [] h2:=⟨S2.keep,S2.off,S2.nd,S2.len,S2.live,S2.cell,O.base,O.cell,by
  have:=S1.above
  obtain⟨m,n,_⟩:=S1.loc
  rw[ai]
  exact Nat.le_succ_of_le (Nat.le_of_lt (Nat.lt_of_le_of_lt this n.lt)),⟨_,n2,λy=>trivial⟩,S2.ff,S2.dN⟩
 have a5:bV F C c u c h2:=⟨List.prefix_refl _,λa ha=>.inl ha,λb o _ _ _ q=>ab b o q,λb o _ _ _ q=>⟨o.slots,ab b o q⟩⟩
 obtain⟨oI,aU⟩:=mZ x1
 have ar:I<h.objs.size:=Heap.lt_size aU
 have aJ:OffI H F C c I:=⟨O1.cell,by rw[ai];exact Nat.ne_of_lt (Nat.lt_succ_of_lt ar),O1.fr,O1.base⟩
 have aI:OffI H F C c h.objs.size:=⟨ag.cell,av,ag.fr,ag.base⟩
 have x2:eR c ak I 0 h2:=x1.keep (List.prefix_refl _) λo q=>f _ _ q
 obtain⟨_,W⟩:=tM (C:=C) N hc
 have NC:bG {newEnv d C Z.globals (gm Z d.names []) Z.qual none .none (some Z) builtinsNs with scope:=relabel d Z} ⟨bM Y d,[],Y.bF⟩ F C c:=(W (newEnv d C Z.globals (gm Z d.names []) Z.qual none .none (some Z) builtinsNs) rfl rfl rfl rfl rfl).pre ao.pre
 obtain⟨rc,aB⟩:∃rc,(run T n).comp ⟨bM Y d,[],Y.bF⟩ t x i ak 0 [] P=some rc:=by
  cases bc:(run T n).comp ⟨bM Y d,[],Y.bF⟩ t x i ak 0 [] P with
  |none=>rw[bc] at e;ext e
  |some rc=>exact⟨rc,rfl⟩
 rw[aB] at e
 have au:codeAny (model J w) A (.compLoop (.ListComp t [⟨.Name x px,it,i,0⟩] d aq) 0 (.ref I) (.ref h.objs.size) {newEnv d C Z.globals (gm Z d.names []) Z.qual none .none (some Z) builtinsNs with scope:=relabel d Z})
  (qc (model J w) A E use Q0 (.ref h.objs.size) Z C) {s with heap:=h2,toks:=t1+([]:List (Str×Value)).length}:=by
  refine Ap (s:={s with heap:=u}) (r:=rc) ba IH Q NC aQ aP (Nat.ne_of_gt ar) ⟨Nat.le_refl _,0,[],P,[],c,h2,_, #[],0,rfl,a5,SC,x2,aJ,aI,l2,.nil,aB⟩ ?_
  cases rc with
  |ok vs aA=>
   ext e
   intro l h3 t3 a8 ys k aD S3 O3 l3 a3
   have SL:=Af Sb ay aD S3
   have aH:OffI H F L l h.objs.size:=⟨O3.cell,ag.loc,O3.fr,O3.base⟩
   obtain⟨S4,P4,v4⟩:=As SL aH l3 a3
   have a7:bV F L X s.heap l h3:=aF.trans (Ae aD ay) SL.b6
   have aO:s.heap.get? h.objs.size=none:=S.alive ao S1 aw
   have a6:bV F L X s.heap l (hideAll h3 [h.objs.size]):=a7.but aO jX
   obtain⟨mC,nC,_⟩:=S3.loc
   have aG:OffI H F L (l++[h.objs.size]) C:=⟨λbc=>by
    rcases List.mem_append.mp bc with bc|bc
    ·exact S3.b6 bc
    ·exact av (List.mem_singleton.mp bc).symm,O.loc,O.fr,O.base⟩
   exact hq rfl (a6.trans P4.iH S4.b6) S4 v4 aG (S.alive ao S1 ah) ⟨mC,nC⟩
  |exc aA=>
   ext e
   intro locC l h3 t3 ex X3
   obtain⟨e0,ae,Lf,q1,q2,q3⟩:=N.fr
   obtain⟨a9,b1,b2,b3,b4,b5⟩:=X3.base
   unfold notedBy
   rw[Ab (env':=e0)]
   rotate_left
   ·show Z.frame=e0.frame
    rw[q2,q3]
   have aM:C∉b7 F:=O.fr
   have aS:A.frames=some (e0::ae):=by rw[←q1];exact Q.1
   rw[q1] at b2
   refine lz (s:={s with heap:=h3,toks:=t3}) aS q2 b2 λh4 aa aX=>?_
   obtain⟨a0,aa⟩:=aa
   rw[←q1] at aa
   have X4:cW J w H F C c {s with heap:=u} cls aA locC l h4 ex:=X3.Aq (s:={s with heap:=u}) Sb.ff ⟨a9,b1,by rw[q1];exact iJ q2 (by rw[←q1];exact aa),b3,b4,b5⟩ aX
   obtain⟨mC,nC,_⟩:=X4.loc
   refine⟨mC,nC,λh5 aV=>?_⟩
   obtain⟨B',aK,aZ⟩:=Ag (s:={s with heap:=u}) Sb ay aM X4 aV b1 aa b3 b4 b5 ⟨e0,ae,q1,q2⟩
   refine tN (s:={s with heap:=h5,toks:=t3}) (show Z.frame=some Lf from q3) aK λh6 aT aY=>?_
   have X6:=aZ h6 aT aY
   exact hx aA rfl l h6 t3 ex (X6.move (t₁:=s.toks) aF)
 exact codeAny_compStart_list au (Ar (s:={s with heap:=h2,toks:=t1+([]:List (Str×Value)).length}) x2 au)
theorem tQ(S:Sg J w H F L X G loc h)(O:OffI H F L X C)(s:Heap.SameBut C h B):Sg J w H F L X G loc B:=S.but O λb o n q=>(s.2 b n).trans q
theorem tR(x:bV F L X h j B)(a:h.get? C=none)(s:Heap.SameBut C B h''):bV F L X h j h'':=x.but a λb o n q=>(s.2 b n).trans q
theorem Au{l t:Expr}{x:Str}{u p:Pos}{i:List Expr}{f:Scope}{r:R V}{Q:Value->Shared->Prop}
 (W:Gd J w T K H)(q:cw J w H cls n (run T n).ev)(b:ez J w H cls n (run T n).bL)(I:∀m,m<n->cw J w H cls m (run T m).ev/\jW J w H cls m (run T m).tests)
 (a:Rm A F n)(S:Sg J w H F L X G Y.loc s.heap)(N:bG Z Y F L X)(h:cZ t=true)(e:gI T (run T n) Y l x t i f G=some r)
 (k:K1 J w H F L X Y.loc s cls (λX v y=>VR X v y) r Q E):wpAny (model J w) A (eval (.ListComp l [⟨.Name x u,t,i,0⟩] f p) Z) Q E s:=by
 rw[eval_ListComp]
 refine tP (use:=none) W q b I a S N h e (λz d=>by subst d;exact k) λ{v z j B tk D C} d M g P O o c=>?_
 clear e
 subst d
 obtain⟨m,c⟩:=c
 exact⟨m,c,λh'' b=>k j h'' tk (.ref D) (tR M o b) (tQ g O b) P⟩
theorem Av{l t:Expr}{x y:Str}{q p u b:Pos}{i:List Expr}{c:Scope}{r:RS}{Q:Flow->Shared->Prop}
 (ak:Gd J w T K H)(hv:cw J w H cls n (run T n).ev)(hs:ez J w H cls n (run T n).bL)(IH:∀m,m<n->cw J w H cls m (run T m).ev/\jW J w H cls m (run T m).tests)
 (R:Rm A F n)(S:Sg J w H F L X G Y.loc s.heap)(N:bG Z Y F L X)(W:cZ t=true)(hl:Nat.beq q.line b.line=true)(hx:(!c.names.any (λq=>sq q.1 x))=true)
 (e:(if ja Y [x] then lift Y (gI T (run T n) Y l y t i c G) λv G=>dz (bZ Y G x v) else .none)=some r)
 (k:K2 J w H F L X s cls r Q E):wpAny (model J w) A (exec (.Assign [.Name x q] (.ListComp l [⟨.Name y u,t,i,0⟩] c b) p) Z) Q E s:=by
 split at e
 case isFalse=>ext e
 rename_i M
 have ah:Y.sc.lookup x=some .local:=by
  clear e
  have:=List.all_eq_true.mp M x (.head _)
  split at this
  ·rename_i ao;rw[dr] at ao;exact ao
  ·ext this
 have hk:Z.kindOf x=some .local:=by show Z.scope.names.lookup x=_;rw[N.names];exact ah
 have af:swapsWith (.ListComp l [⟨.Name y u,t,i,0⟩] c b) (some (.Name x q)) p.line Z=pure true:=by
  clear e
  unfold swapsWith
  have h1:(Z.blockKind==.function)=true:=by
   unfold Env.blockKind
   rw[N.kind];rfl
  have h2:(q.line==(Expr.ListComp l [⟨.Name y u,t,i,0⟩] c b).pos.line)=true:=by show(q.line==b.line)=true;rw[Nat.eq_of_beq_eq_true hl];simp
  have h3:(c.names.any λ(n,k)=>n==x&&(k==.local||k==.cell))=false:=by
   clear k
   rw[List.any_eq_false]
   intro ao hz hb
   obtain⟨z1,z2⟩:=ao
   obtain⟨aa,_⟩:=Bool.and_eq_true_iff.mp hb
   rw[Bool.not_eq_true',List.any_eq_false] at hx
   exact hx _ hz (by rw[beq_iff_eq.mp aa];exact jO _)
  clear k
  simp only[h1,h2,hk,h3]
  rfl
 rw[exec_Assign_Name_used _ _ _ _ af]
 refine wpAny_bind (wpAny_standAt (wpAny_bind ?_))
 show wpAny _ A (do let _←comprehension (.ListComp l [⟨.Name y u,t,i,0⟩] c b) c Z _ (newList []) false (eval t Z) (some (assign (.Name x q) Z))) _ _ s
 have f:∀r',gI T (run T n) Y l y t i c G=some r'->(∀z,r'=.exc z->Exc J w H F L X s cls z Y.loc E)->
  (∀{v:V} {z:Hp} {j:List Addr} {B:Heap} {tk:Nat} {D:Addr},r'=.ok v z->bV F L X s.heap j B->Sg J w H F L j z Y.loc B->VR j v (.ref D)->∃en' d,bZ Y z x v=some (en',d)/\r=.ok .next en'.loc d)->
  wpAny (model J w) A (comprehension (.ListComp l [⟨.Name y u,t,i,0⟩] c b) c Z (firstIterPos [⟨.Name y u,t,i,0⟩] b) (newList []) false (eval t Z) (some (assign (.Name x q) Z))) (λ_ h=>Q .next h) E s:=by
  intro r' I ag ae
  refine tP (use:=some (assign (.Name x q) Z)) (Q0:=λ_ h=>Q .next h) ak hv hs IH R S N W I ag λ{v z j B tk D C} hr st S' vr O hC hn=>?_
  obtain⟨aj,d,g,rfl⟩:=ae (tk:=tk) hr st S' vr
  show wpAny _ A (assign (.Name x q) Z (.ref D)) _ _ _
  rw[arm_assign_Name]
  refine wpAny_bind (wpAny_standAt (wpAny_bindName (ji (s:={s with heap:=B,toks:=tk}) S' (N.pre st.pre) g vr λh3 t3 S3 P3 N3=>?_)))
  obtain⟨m,hn⟩:=hn
  have ab:h3.Ns C m:=hn.at' λo ao=>P3.keep C o O.cell (λao=>O.loc (List.mem_singleton.mp ao)) ao
  refine⟨m,ab,λh4 P=>?_⟩
  exact k j h4 t3 .next (tR (st.trans (P3.toF λa ha=>List.mem_singleton.mp ha) S3.b6) hC P) (tQ S3 O P) rfl
 refine wpAny_bind (wpAny_mono (?_:wpAny (model J w) A _ (λ_ h=>Q .next h) E s) (λ_ h hq=>wpAny_pure (wpAny_pure hq)) λ_ _ e=>e)
 rcases tu e with⟨v,ai,I,g⟩|⟨ai,I,rfl⟩
 ·clear e k
  refine f _ I (λz ao=>by ext ao) λ{v' z j B tk D} ao st S' vr=>?_
  clear f S'
  cases(ao)
  unfold dz at g
  split at g
  ·ext g;exact⟨_,_,by assumption,rfl⟩
  ·ext g
 ·exact f _ I (λz ao=>by ext ao;exact k) λao=>by ext ao
end
end Sd
namespace Sd
open PySem PySem.W PyProof.Rows PySem.Calls Mi Builtin Builtin.ObjectAttr
noncomputable def jk:List Value->Bool
 |.ref a::r=>jk r
 |l=>l==[.type "Exception",.type "BaseException",.type "object"]
inductive OE:List Value->Prop
 |base:OE [.type "Exception",.type "BaseException",.type "object"]
 |ref (c:Addr) {r:List Value}:OE r->OE (.ref c::r)
theorem tS{l:List Value}(e:jk l=true):OE l:=by
 induction l with
 |nil=>exact(beq_iff_eq.mp e:[]=_)▸.base
 |cons v r h=>cases v<;>first
  |exact .ref _ (h e)
  |exact(beq_iff_eq.mp e:_=_)▸OE.base
theorem Aw(s:Value){l:List Value}(e:jk l=true):refuseLoop s "__setattr__" l=pure ():=by
 have o:=tS e
 clear e
 induction o with
 |base=>exact PySem.F.store_Exception.passes s
 |ref c a h=>rw[refuseLoop_ref];exact h
theorem Ax{l:List Value}(e:jk l=true):l.contains (.type "object")=true/\l.isEmpty=false:=by
 have o:=tS e
 clear e
 induction o with
 |base=>exact⟨by simp,rfl⟩
 |ref c a h=>exact⟨by rw[List.contains_cons,h.1,Bool.or_true],rfl⟩
structure ExcAt(i h:Heap)(e C:Addr)(vs:Array Value)(k:Nat):Prop where
 obj:∃ox,h.get? e=some ox/\ox.cls=.ref C/\ox.data=.fields vs/\ox.slots= #[]/\(ox.dict=none\/∃(d:Addr) (mA:Str->Option Value) (ns:List Str),ox.dict=some d/\d≠e/\h.Ns1 d mA/\Within mA ns/\ns.length<=k/\i.get? d=none)
 new:i.get? e=none
 keep:∀b o,i.get? b=some o->h.get? b=some o
structure m5(K:Frag)(C:Addr)(names:List Str):Prop where
 only:(clsIn K C).any (λcd=>jk cd.mro)=true
 setattr:findIn K (.ref C) "__setattr__" =some (some (.builtin "object.__setattr__"))
 hasDict:(clsIn K C).any (·.hasDict)=true
 free:∀x∈names,takerIn K C x=some none
section
variable{J:Program}{w:World}{A:Around}{K:Frag}{E:Value->Shared->Prop}{i:Heap}{s:Shared}{e C:Addr}{vs:Array Value}{k:Nat}{R:Result->Shared->Prop}
theorem tT{B:Obj}{z:Option Obj}{n:Str}{tk:Tok}{v:Value}(D:K.In s.heap)(I:PySem.W.InstAt s.heap e B C z)(u:(clsIn K C).any (λd=>jk d.mro)=true)(x:takerIn K C n=some none)
 (h:∀b,wpAny (model J w) A.in1 (Builtin.ObjectAttr.storeInOwnDict (.ref e) (.ref C) (.str n tk) n v b)
   (λg c=>match g with|.done f=>R (.ok f) c|.again k=>k.quiet=true/\codeAny (model J w) A k R c) (λe c=>R (.error e) c) s):
 codeAny (model J w) A (.call (.builtin "object.__setattr__") ⟨[.ref e,.str n tk,v],[]⟩) R s:=by
 have S:=PySem.F.store_object
 obtain⟨d,m,p⟩:=any_some u
 obtain⟨o,y⟩:=Ax p
 have sub:Looks (model J w) s.heap (isInstance (.ref e) (.type "object")) true:=I.type.andThen (looks_mroIn D (by unfold mroIn;rw[m,Option.bind_some,if_neg (by rw[y];decide),o]))
 refine codeAny_call_builtin S.slot.plain S.entry (@check_slot (model J w) _ _ s "object.__setattr__" "object" "__setattr__" (.ref e) [.str n tk,v] [] _ S.kind S.split sub (S.args (.ref e) (.str n tk) v) ?_)
 obtain⟨t,j,r⟩:=Option.bind_eq_some_iff.mp x
 have q:Looks (model J w) s.heap (mroOf (.ref C)) d.mro:=(looks_clsIn D m).andThen .now
 have L:Looks (model J w) s.heap (storeTaker? t) none:=by
  clear j
  cases t with
  |none=>exact .now
  |some a=>
   obtain⟨b,l,r⟩:=Option.map_eq_some_iff.mp r
   refine(looks_takesIn D l).andThen ?_
   clear l
   cases b with
   |true=>ext r
   |false=>exact .now
 clear r
 rw[osa_eq,refuse_eq]
 refine wpAny_bind (wpAny_bind (I.type.here (wpAny_bind (q.here ?_))))
 rw[Aw _ p]
 refine wpAny_pure (wpAny_bind (I.type.here (wpAny_bind ((looks_findIn D j).here (wpAny_bind (L.here ?_))))))
 clear j
 exact h _
theorem Ay{a:Str}{v:Value}{m:List Str}{Q:Unit->Shared->Prop}(aj:K.In s.heap)(l:m5 K C m)(hm:a∈m)(I:ExcAt i s.heap e C vs k)(hk:k<1000)
 (hq:∀j tk,ExcAt i j e C vs (k+1)->(∀b o,b≠e->(∃o,i.get? b=some o)->s.heap.get? b=some o->j.get? b=some o)->Q () {s with heap:=j,toks:=tk}):
 wpAny (model J w) A (setAttr (.ref e) a v) Q E s:=by
 obtain⟨⟨ox,y,hc,hd,P,c⟩,g,h⟩:=I
 obtain⟨cd,H,N⟩:=any_some l.hasDict
 obtain⟨oc,ah,ag,ai⟩:=ox
 dsimp only at hc hd P c
 subst hc hd P
 have af:∀b o,i.get? b=some o->b≠e:=λb o q z=>by rw[z,g] at q;ext q
 rcases c with rfl|⟨d,mA,ns,rfl,L,O,hw,hl,M⟩
 ·have I:PySem.W.InstAt s.heap e {cls:=.ref C,dict:=none,data:=.fields vs,slots:= #[]} C none:=⟨y,rfl,rfl,trivial⟩
  refine set_plain aj I l.setattr ?_
  refine tT (s:={s with toks:=s.toks+1}) aj I l.only (l.free _ hm) λb=>?_
  refine wpAny_bind (wpAny_pure (wpAny_bind (wpAny_bind (wpAny_loadPart y (wpAny_bind (Looks.here (s:={s with toks:=s.toks+1}) (looks_clsIn aj H) ?_))))))
  rw[N]
  have t:e≠s.heap.objs.size:=Nat.ne_of_lt (Heap.lt_size y)
  have x:(s.heap.push {cls:=.type "dict",data:=.dict #[]}).get? e=some {cls:=.ref C,dict:=none,data:=.fields vs,slots:= #[]}:=Heap.get?_push_of_some _ y
  refine wpAny_bind (wpAny_alloc' ?_)
  refine wpAny_bind (wpAny_update' x ?_)
  refine wpAny_pure ?_
  have V:((s.heap.push {cls:=.type "dict",data:=.dict #[]}).update e λo=>{cls:=o.cls,dict:=some s.heap.objs.size,data:=o.data,slots:=o.slots}).get? s.heap.objs.size
   =some {cls:=.type "dict",data:=.dict #[]}:=
   (Heap.get?_update_ne _ _ _ _ t.symm).trans (Heap.get?_push_at rfl rfl)
  have aa:((s.heap.push {cls:=.type "dict",data:=.dict #[]}).update e λo=>{cls:=o.cls,dict:=some s.heap.objs.size,data:=o.data,slots:=o.slots}).Ns s.heap.objs.size (λ_=>none):=
   ⟨_, #[],_,V,rfl,λe he=>absurd he (by simp),λ_=>rfl⟩
  show wpAny _ _ (storeInDict s.heap.objs.size (.str a _) a v) _ _ _
  unfold storeInDict newKeyGuard
  refine wpAny_bind (wpAny_pure (wpAny_bind (wpAny_nsSet1 (Heap.Ns1.of_empty aa) λj f R=>?_)))
  have F:=Within.cons a v Within.nil
  obtain⟨oD,T,S,u,p,D⟩:=f.count F
  refine wpAny_bind (wpAny_lookBehind u (by rw[p];exact pastItsLine_dict (Nat.le_trans D (by rw[List.length_cons,List.length_nil,sizeLine_eq];lia))) ?_)
  have ae:j.get? e=some {cls:=.ref C,dict:=some s.heap.objs.size,data:=.fields vs,slots:= #[]}:=(R.2 e t).trans (Heap.get?_update_self _ x rfl)
  have B:∀b o,b≠e->s.heap.get? b=some o->j.get? b=some o:=λb o n q=>(R.2 b (Nat.ne_of_lt (Heap.lt_size q))).trans ((Heap.get?_update_ne _ _ _ _ n).trans (Heap.get?_push_of_some _ q))
  refine wpAny_pure (hq j _ ⟨⟨_,ae,rfl,rfl,rfl,.inr ⟨s.heap.objs.size,_,_,rfl,t.symm,f,F,by simp,?_⟩⟩,g,λb o q=>B b o (af b o q) (h b o q)⟩ λb o n _ q=>B b o n q)
  cases q:i.get? s.heap.objs.size with
  |none=>rfl
  |some o=>exact absurd (Heap.lt_size (h _ _ q)) (Nat.lt_irrefl _)
 ·obtain⟨od,es,ep,ab,r⟩:=id O
  have I:PySem.W.InstAt s.heap e {cls:=.ref C,dict:=some d,data:=.fields vs,slots:= #[]} C (some od):=⟨y,rfl,rfl,ab⟩
  refine set_plain aj I l.setattr ?_
  refine tT (s:={s with toks:=s.toks+1}) aj I l.only (l.free _ hm) λb=>?_
  refine wpAny_bind (wpAny_pure (wpAny_bind (wpAny_bind (wpAny_loadPart y (wpAny_bind (Looks.here (s:={s with toks:=s.toks+1}) (looks_clsIn aj H) ?_))))))
  rw[N]
  refine wpAny_pure ?_
  show wpAny _ _ (storeInDict d (.str a _) a v) _ _ _
  unfold storeInDict newKeyGuard
  refine wpAny_bind (wpAny_pure (wpAny_bind (wpAny_nsSet1 (s:={s with toks:=s.toks+1}) O λj f R=>?_)))
  have F:=Within.cons a v hw
  obtain⟨oD,T,S,u,p,D⟩:=f.count F
  refine wpAny_bind (wpAny_lookBehind u (by rw[p];exact pastItsLine_dict (Nat.le_trans D (by rw[List.length_cons,sizeLine_eq];lia))) ?_)
  have B:∀b o,b≠d->s.heap.get? b=some o->j.get? b=some o:=λb o n q=>(R.2 b n).trans q
  have nd:∀b,(∃o,i.get? b=some o)->b≠d:=λb ⟨o,q⟩ z=>by rw[z,M] at q;ext q
  exact wpAny_pure (hq j _ ⟨⟨_,B e _ L.symm y,rfl,rfl,rfl,.inr ⟨d,_,_,rfl,L,f,F,by rw[List.length_cons];lia,M⟩⟩,g,λb o q=>B b o (nd b ⟨o,q⟩) (h b o q)⟩ λb o _ z q=>B b o (nd b z) q)
variable{h:Heap}{g:Array GenState}{d:Drawn}{t:Nat}{os:OsState}{nm q:Str}{N:Addr}{bs bm:List Value}{hdct:Bool}{sn:List Str}{sub:List Value}{ab:Bool}{col:Option Bool}{dd:Option Addr}{k0 k1 k2 k3 k5:Option Value}{Bn newId inN:String}{bmN:List Value}
theorem Az{M:Model}(Fn:ExcBaseFacts Bn newId inN bmN)(B:bm.contains (.type Bn)=true){r:List Value}{Q:Unit->Shared->Prop}(a:h.get? C=some (excClassObj nm q C N bs bm hdct sn sub ab col dd k0 k1 k2 k3 k5 newId))
 (b:Q () ⟨h,g,d,t,os⟩):wpAny M A (checkBuiltinCall newId ⟨.ref C::r,[]⟩) Q E ⟨h,g,d,t,os⟩:=by
 have c:(Value.ref C::bm).contains (.type Bn)=true:=by rw[List.contains_cons,B,Bool.or_true]
 have s:=Fn.noStar
 simp only[checkBuiltinCall,Fn.newKind,Fn.newSplit,Fn.newRow]
 repeat(first|refine wpAny_loadPart_at a ?_|(refine wpAny_isSubtype_exc a ?_;rw[c])|refine wpAny_staticBase_exc a ?_|refine wpAny_madeBy_exc a ?_|simp only[bne_self_eq_false,Bool.false_eq_true,if_false]|wp_step)
 exact b
theorem AA(Fn:ExcBaseFacts Bn newId inN bmN)(B:bm.contains (.type Bn)=true)(a:bm.contains (.type "AttributeError")=false)(e:bm.contains (.type "NameError")=false){r:List Value}(c:h.get? C=some (excClassObj nm q C N bs bm hdct sn sub ab col dd k0 k1 k2 k3 k5 newId))
 (l:R (.ok (.ret (.ref (h.objs.size+1)))) ⟨(h.push {cls:=.type "tuple",data:=.seq r.toArray}).push
   {cls:=.ref C,data:=.fields #[.ref h.objs.size,.none,.none,.none,.bool false,.none]},g,d,t,os⟩)(s:r.length<=sizeLine:=by size_fits):
 codeAny (model J w) A (.builtin newId ⟨.ref C::r,[]⟩) R ⟨h,g,d,t,os⟩:=by
 have n:=Fn.ends
 have j:(Value.ref C::bm).contains (.type Bn)=true:=by rw[List.contains_cons,B,Bool.or_true]
 have f:(Value.ref C::bm).contains (.type "AttributeError")=false:=by rw[List.contains_cons,a];rfl
 have k:(Value.ref C::bm).contains (.type "NameError")=false:=by rw[List.contains_cons,e];rfl
 refine codeAny_builtinAt Fn.entry ?_
 unfold Builtin.«BaseException.__new__»
 refine PySem.wpAt_bind ?_
 show PySem.wpAt _ _ _ (stack>>=_) _ _ _
 refine PySem.wpAt_bind (PySem.wpAt_stack λp b=>PySem.wpAt_of_wpAny ?_)
 wp_walk
 refine PySem.wpAt_of_wpAny ?_
 rw[Fn.owner]
 repeat(first|with_reducible refine wpAny_madeHere_exc Fn.canon c ?_|with_reducible refine wpAny_loadPart_at c ?_|(with_reducible refine wpAny_isSubtype_exc c ?_;first|rewrite[j]|rewrite[f]|rewrite[k])|wp_step)
 show R _ _
 rw[Heap.size_push]
 exact l
theorem AB{K:Frag}(Fn:ExcBaseFacts Bn newId inN bmN)(B:bm.contains (.type Bn)=true)(l:bm.contains (.type "AttributeError")=false)(m:bm.contains (.type "NameError")=false){a:List Value}{I:Addr}{Q:Fin->Shared->Prop}(L:K.In h)
 (j:K.lookup C=some (excClassObj nm q C N bs bm hdct sn sub ab col dd k0 k1 k2 k3 k5 newId))(D:findIn K (.ref C) "__init__" =some (some (.ref I)))(z:typeIn K (.ref I)=some (.type "function"))
 (F:∀u e,Heap.MadeExcOf h u e (.ref C) a->
   wpAny (model J w) A (call (.ref I) (.ref e::a)) (λr v=>r=.none/\Q (.done (.ret (.ref e))) v) E ⟨u,g,d,t,os⟩)(hrest:a.length<=sizeLine:=by size_fits):
 wpAny (model J w) A (Builtin.«type.__call__» ⟨.ref C::a,[]⟩) Q E ⟨h,g,d,t,os⟩:=by
 have j:=L _ _ j
 repeat(first|with_reducible refine wpAny_loadPart_at j ?_|with_reducible refine wpAny_madeBy_exc j ?_|wp_step)
 refine codeAny_call_builtin_code (Code.quiet_builtin _ Fn.quiet) (Az Fn B j ?_)
 refine AA Fn B l m j ?_ hrest
 show wpAny _ _ _ _ _ _
 have p:∀b o,h.get? b=some o->((h.push {cls:=.type "tuple",data:=.seq a.toArray}).push {cls:=.ref C,data:=.fields #[.ref h.objs.size,.none,.none,.none,.bool false,.none]}).get? b=some o:=
  λb o e=>Heap.get?_push_of_some _ (Heap.get?_push_of_some _ e)
 have k:=p _ _ j
 have f:((h.push {cls:=.type "tuple",data:=.seq a.toArray}).push
  {cls:=.ref C,data:=.fields #[.ref h.objs.size,.none,.none,.none,.bool false,.none]}).get? (h.objs.size+1)=some
  {cls:=.ref C,data:=.fields #[.ref h.objs.size,.none,.none,.none,.bool false,.none]}:=by heap_get
 have n:(Value.ref C::bm).contains (.ref C)=true:=by simp
 have c:K.In ((h.push {cls:=.type "tuple",data:=.seq a.toArray}).push {cls:=.ref C,data:=.fields #[.ref h.objs.size,.none,.none,.none,.bool false,.none]}):=λb o q=>p _ _ (L b o q)
 unfold isInstance
 repeat(first|with_reducible refine wpAny_loadPart_at f ?_|(with_reducible refine wpAny_isSubtype_exc k ?_;rw[n])|wp_step)
 show wpAny _ _ (typeLookup (.ref C) _) _ _ _
 refine Looks.here (s:=⟨_,g,d,t,os⟩) (looks_findIn c D) ?_
 refine wpAny_holding (wpAny_bind ((bind_fn c _ z).here (s:=⟨_,g,d,t,os⟩) ?_))
 refine wpAny_bind (wpAny_mono (F _ (h.objs.size+1) ⟨p,Heap.get?_none_of_le (Nat.le_succ _),h.objs.size,f,Heap.get?_none_of_le (Nat.le_refl _),?_⟩) (λr v H=>?_) λM O x=>x)
 ·exact Heap.get?_push_of_some _ (Heap.get?_push_at rfl rfl)
 ·obtain⟨rfl,y⟩:=H
  wp_walk
  exact y
theorem AD{K:Frag}(Fn:ExcBaseFacts Bn newId inN bmN)(B:bm.contains (.type Bn)=true)(j:bm.contains (.type "AttributeError")=false)(k:bm.contains (.type "NameError")=false){s:List Value}{f:Addr}{Q:Value->Shared->Prop}(y:K.In h)
 (l:K.lookup C=some (excClassObj nm q C N bs bm hdct sn sub ab col dd k0 k1 k2 k3 k5 newId))(n:findIn K (.ref C) "__init__" =some (some (.ref f)))(m:typeIn K (.ref f)=some (.type "function"))
 (p:∀c e,Heap.MadeExcOf h c e (.ref C) s->
   wpAny (model J w) (A.under (.builtin "type.__call__" ⟨.ref C::s,[]⟩)) (call (.ref f) (.ref e::s)) (λr u=>r=.none/\Q (.ref e) u) E ⟨c,g,d,t,os⟩)(b:s.length<=sizeLine:=by size_fits):
 wpAny (model J w) A (call (.ref C) s) Q E ⟨h,g,d,t,os⟩:=by
 have v:=tc_lookup
 have x:=tc_bind (.ref C)
 have a:=y _ _ l
 have T:(⟨h,g,d,t,os⟩:Shared).TypeIs (.ref C) "type" :=⟨_,a,rfl⟩
 refine wpAny_call (codeAny_of_tree ?_)
 show wpAny _ _ (callAny (.ref C) _) _ _ _
 repeat(any_goals (first|assumption|with_reducible refine wpAny_loadPart_at a ?_|wp_step))
 refine⟨rfl,?_⟩
 refine codeAny_call_builtin_at (Code.quiet_builtin _ (by decide+kernel)) entry_typeCall (wpAny_check_type_call_sub a (AB (hrest:=b) Fn B j k y l n m λc e o=>?_))
 exact p c e o
end
section
variable{M:Model}{A:Around}{E:Value->Shared->Prop}{Z:Env}{s:Shared}
variable{nm q:Str}{C N:Addr}{bs bm:List Value}{hdct:Bool}{sn:List Str}{sub:List Value}{ab:Bool}{col:Option Bool}{dd:Option Addr}{k0 k1 k2 k3 k5:Option Value}{newId:String}
theorem AE{x:Sem Value}{Q:Flow->Shared->Prop}(b:bm.contains (.type "BaseException")=true)(n:A.handled=none)
 (h:wpAny M A x (λv a=>∃e t o,v=.ref e/\a.heap.get? C=some (excClassObj nm q C N bs bm hdct sn sub ab col dd k0 k1 k2 k3 k5 newId)/\
   a.heap.get? e=some o/\o.cls=.ref C/\o.data=.fields #[.ref t,.none,.none,.none,.bool false,.none]/\E (.ref e) a) E s):
 wpAny M A (raiseStmt Z (some x) none) Q E s:=by
 have B:(Value.ref C::bm).contains (.type "BaseException")=true:=by rw[List.contains_cons,b,Bool.or_true]
 unfold raiseStmt
 refine wpAny_bind (wpAny_mono h (λv a c=>?_) λz D x=>x)
 obtain⟨e,t,o,rfl,f,m,j,k,l⟩:=c
 obtain⟨y,r,p,u⟩:=o
 dsimp only at j k
 subst j k
 obtain⟨w,g,d,tk,os⟩:=a
 repeat(first|with_reducible refine wpAny_loadPart_at m ?_|with_reducible refine wpAny_loadPart_at f ?_|(with_reducible refine wpAny_isSubtype_exc f ?_;rw[B])|wp_step)
 exact wpAny_raiseNew_none n l
variable{J:Program}{w:World}{K:Frag}{i:Heap}{e L:Addr}{vs:Array Value}{k:Nat}
theorem tU{a:Nat}{f:Mi.Fn}{ys:List Value}{Q:Value->Shared->Prop}(O:fT K a f)(M:f.dflt=[])(aa:K.In s.heap)(v:s.heap.NoLimit)(hl:ys.length=f.ps.length)(u:∀p∈f.sc.names,p.2≠.cell)(l:∀x∈f.ps,f.sc.names.lookup x=some .local)(room:A.depth<1000)
 (h:∀(e:Env) c tk,e.scope=f.sc->e.locals=s.heap.objs.size->e.globals=mainGlobals->e.builtins=builtinsNs->c.Ns s.heap.objs.size (λx=>(f.ps.zip ys).reverse.lookup x)->(∀b o,s.heap.get? b=some o->c.get? b=some o)->
   wpAny (model J w) (A.deeper e) (execs f.body e) (λz F=>z=.next/\Q .none F) (λ_ _=>False) {s with heap:=c,toks:=tk}):
 codeAny (model J w) A (.call (.ref a) ⟨ys,[]⟩) (wants Q E) s:=by
 obtain⟨oc,od,S,C,D,m,W,kV,I,pm,T,H,V,L,d,n⟩:=O.ex
 obtain⟨t,g,B⟩:=n s ys aa (by lia) (by lia)
 have y:t=[]:=by rw[M] at g;ext g;rfl
 subst y
 rw[List.drop_nil,List.append_nil] at B
 have r:A.depth<recursionLimit:=room
 refine codeAny_call_function r (aa _ _ L) rfl O.co O.gen rfl (codeRec_of aa d) (B _ _ _ _ ?_)
 have k:∀{c:Heap},Heap.SameBut s.heap.objs.size (s.heap.push {cls:=.type "frame",data:=.dict #[]}) c->∀b o,s.heap.get? b=some o->c.get? b=some o:=λP b o q=>
  (P.2 b (Nat.ne_of_lt (Heap.lt_size q))).trans (Heap.get?_push_of_some _ q)
 refine wpAny_newFunctionEnv u (λp N=>l _ (List.of_mem_zip N).1) (λc R j=>?_) O.kind
 refine⟨v.keeps (k j),?_⟩
 refine codeAny_func ?_
 refine wpAny_mono (h _ c _ rfl rfl rfl rfl R (k j)) (λz F q=>?_) λ_ _ q=>q.elim
 obtain⟨rfl,q⟩:=q
 exact q
theorem lE{x:Str}{p:Pos}{v:Value}{m:Str->Option Value}{M:Model}{Q:Value->Shared->Prop}(k:Z.scope.kind=.function)(a:Z.scope.names.lookup x=some .local)(h:cQ x=true)(n:s.heap.Ns Z.locals m)(b:m x=some v)(q:Q v s):
 wpAny M A (eval (.Name x p) Z) Q E s:=wpAny_Name (wpAny_loadName_local k a n b q) (hV h)
theorem m6{f x a:Str}{p g t L:Pos}{v:Value}{b:List Str}{m:Str->Option Value}{Q:Flow->Shared->Prop}(c:K.In i)(u:m5 K C b)(B:a∈b)(r:Z.scope.kind=.function)(o:Z.scope.names.lookup f=some .local)(F:Z.scope.names.lookup x=some .local)
 (j:cQ f=true)(z:cQ x=true)(d:i.Ns Z.locals m)(q:m f=some (.ref e))(H:m x=some v)(I:ExcAt i s.heap e C vs k)(l:k<1000)
 (D:∀h tk,ExcAt i h e C vs (k+1)->Q .next {s with heap:=h,toks:=tk}):wpAny (model J w) A (exec (.Assign [.Attribute (.Name f p) a g] (.Name x t) L) Z) Q E s:=by
 have n:s.heap.Ns Z.locals m:=d.keeps I.keep
 have M:K.In s.heap:=c.keeps I.keep
 rw[arm_exec_Assign]
 refine wpAny_bind (wpAny_standAt ?_)
 rw[jV rfl]
 refine wpAny_bind (wpAny_pure ?_)
 rw[if_neg Bool.false_ne_true]
 refine wpAny_bind ?_
 refine lE r F z n H ?_
 rw[show swappedStores [.Attribute (.Name f p) a g] (.Name x t) Z=pure none from rfl]
 refine wpAny_bind (wpAny_pure ?_)
 show wpAny _ A (do assignAll v [assign (.Attribute (.Name f p) a g) Z];pure .next) Q E _
 refine wpAny_bind ?_
 show wpAny _ A (assign (.Attribute (.Name f p) a g) Z v) _ E _
 rw[arm_assign_Attribute]
 refine wpAny_bind (wpAny_holding ?_)
 refine lE r o j n q ?_
 refine wpAny_bind (wpAny_standAt (wpAny_bind (wpAny_holding ?_)))
 exact Ay M u B I l λh tk y N=>wpAny_release' (wpAny_pure (D h tk y))
end
end Sd
namespace Sd
open PySem PySem.W PyProof.Rows PySem.Calls Mi
inductive tV(K:Frag)(C:Nat):Prop
 |mk (nm q N bs bm sn sub ab col dd k0 k1 k2 k3 k5) (hC:K.lookup C=some (excClassObj nm q C N bs bm true sn sub ab col dd k0 k1 k2 k3 k5 "Exception.__new__"))
  (hBn:bm.contains (.type "Exception")=true) (hAt:bm.contains (.type "AttributeError")=false) (hNa:bm.contains (.type "NameError")=false) (hBa:bm.contains (.type "BaseException")=true):tV K C
inductive tW(K:Frag)(gl:Str->Option V)(C:Nat):Prop
 |mk (fC fD D:Nat) (gC gD:Mi.Fn) (sf a b sf' x1 x2 cD a1 a2 b1 b2 du ini:Str) (ap p1 p2 p3 p4 p5 p6 p7 p8 q1 q2 q3 q4 q5 q6 q7 q8 r1 r2 r3 r4 r5 r6 r7 r8:Pos) (kk:Nat) (mc:Value)
  (i1:findIn K (.ref C) "__init__" =some (some (.ref fC))) (i2:typeIn K (.ref fC)=some (.type "function")) (OC:fT K fC gC) (OD:fT K fD gD) (dC:gC.dflt=[]) (dD:gD.dflt=[]) (psC:gC.ps=[sf,a,b]) (psD:gD.ps=[sf',x1,x2])
  (bC:gC.body=[.Expr (.Call (.Attribute (.Name cD p1) ini ap) [.Name sf p2,.Constant (.str du) kk p3,.List [.Name a p4,.Name b p5] p6] [] p7) p8,
    .Assign [.Attribute (.Name sf q1) a1 q2] (.Name a q3) q4,.Assign [.Attribute (.Name sf q5) a2 q6] (.Name b q7) q8])
  (bD:gD.body=[.Assign [.Attribute (.Name sf' r1) b1 r2] (.Name x1 r3) r4,.Assign [.Attribute (.Name sf' r5) b2 r6] (.Name x2 r7) r8])
  (nC:(gC.sc.names.all λp=>p.2 !=.cell)=true) (nD:(gD.sc.names.all λp=>p.2 !=.cell)=true)
  (lC:([sf,a,b].all λx=>gC.sc.names.lookup x==some .local&&cQ x)=true) (lD:([sf',x1,x2].all λx=>gD.sc.names.lookup x==some .local&&cQ x)=true)
  (cg:gC.sc.names.lookup cD=some .globalImplicit) (cn:cQ cD=true) (hline:Nat.beq ap.endLine p7.line=true) (hgl:gl cD=some (.old D))
  (hdist:((sf !=a)&&(sf !=b)&&(a !=b)&&(sf' !=x1)&&(sf' !=x2)&&(x1 !=x2))=true)
  (g1:specialIn K (.ref D) "__getattribute__" =some (some (.builtin "type.__getattribute__"))) (g2:readsIn K D mc=true) (g3:findCls K (.ref D) mc ini=some (.val (.ref fD))) (g4:handedIn (.ref fD)=true) (g5:keepIn K (.ref fD)=true)
  (EC:m5 K C [a1,a2,b1,b2]):tW K gl C
structure lF(K:Frag)(T:Tb)(C:Nat):Prop where
 cls:tV K C
 keep:keepIn K (.ref C)=true
 init:tW K (dp T) C
section
variable{J:Program}{w:World}{A:Around}{K:Frag}{T:Tb}{E:Value->Shared->Prop}{H:Heap}{s:Shared}{C:Nat}
theorem three{x y z:Str}{u v w:Value}(h:x≠y)(d:x≠z)(e:y≠z):(([x,y,z].zip [u,v,w]).reverse.lookup x=some u)/\(([x,y,z].zip [u,v,w]).reverse.lookup y=some v)/\(([x,y,z].zip [u,v,w]).reverse.lookup z=some w):=by
 have b:(x==y)=false:=beq_eq_false_iff_ne.mpr h
 have a:(x==z)=false:=beq_eq_false_iff_ne.mpr d
 have c:(y==z)=false:=beq_eq_false_iff_ne.mpr e
 simp[List.lookup_cons,b,a,c]
theorem qe{Z:Env}{x:Str}{v:V}{y:Value}{M:Model}{Q:Value->Shared->Prop}(B:Gd J w T K H)(t:H.StaysIn s.heap)(d:Z.scope.kind=.function)(b:Z.scope.names.lookup x=some .globalImplicit)(g:Z.globals=mainGlobals)(c:Z.builtins=builtinsNs)
 (e:dp T x=some v)(f:∀z,(∀X,VR X v z)->z=y)(q:Q y s):wpAny M A (loadName Z x) Q E s:=by
 obtain⟨u,p,n,j,k⟩:=B.mH
 obtain⟨z,r,h⟩:=k x v e
 have i:=f z r
 subst i
 have a:wpAny M A (loadGlobal Z x) Q E s:=by
  rcases h with h|⟨l,o⟩
  ·exact Calls.loadGlobal_global (g▸n.keeps t) h q
  ·exact Calls.loadGlobal_builtin (g▸n.keeps t) l (c▸j.keeps t) o q
 unfold loadName
 have b:Z.kindOf x=some .globalImplicit:=b
 simp only[Env.blockKind,d,b,ScopeKind.isAnnotationScope,Bool.false_and,Bool.false_eq_true,if_false]
 exact a
theorem tX{n:List (Str×NameKind)}(h:(n.all λp=>p.2 !=.cell)=true):∀p∈n,p.2≠.cell:=λp a=>by
 have:=List.all_eq_true.mp h p a
 simpa using this
theorem tY{n:List (Str×NameKind)}{xs:List Str}(h:(xs.all λx=>n.lookup x==some .local&&cQ x)=true):∀x∈xs,n.lookup x=some .local/\cQ x=true:=λx c=>by
 have:=List.all_eq_true.mp h x c
 obtain⟨a,b⟩:=Bool.and_eq_true_iff.mp this
 exact⟨by simpa using a,b⟩
theorem AF{ys:List Value}(h:ys.length=2):∃a b,ys=[a,b]:=by
 cases ys with
 |nil=>cases h
 |cons a t=>cases t with
  |nil=>cases h
  |cons b t=>cases t with
   |nil=>exact⟨_,_,rfl⟩
   |cons=>cases h
theorem AG{ys:List Value}{Q:Value->Shared->Prop}(aG:Gd J w T K H)(RK:lF K T C)(st:H.StaysIn s.heap)(room:A.depth<995)(hl:ys.length=2)
 (hq:∀h' tk e t ox,(∀b o,s.heap.get? b=some o->h'.get? b=some o)->s.heap.get? e=none->h'.get? e=some ox->ox.cls=.ref C->ox.data=.fields #[.ref t,.none,.none,.none,.bool false,.none]->Q (.ref e) {s with heap:=h',toks:=tk}):
 wpAny (model J w) A (call (.ref C) ys) Q E s:=by
 obtain⟨y1,y2,rfl⟩:=AF hl
 obtain⟨nm,q,N,bs,bm,sn,sub,ab,col,dd,k0,k1,k2,k3,k5,hC,ay,aw,az,aD⟩:=RK.cls
 obtain⟨fC,fD,D,gC,gD,sf,a,b,au,x1,x2,cD,a1,a2,b1,b2,aC,aF,ap,p1,p2,p3,p4,p5,p6,p7,p8,q1,q2,q3,q4,q5,q6,q7,q8,r1,r2,r3,r4,r5,r6,r7,r8,kk,mc,
  i1,i2,OC,OD,dC,dD,ai,aj,bC,bD,nC,nD,lC,lD,cg,cn,af,aB,L,g1,g2,g3,g4,g5,EC⟩:=RK.init
 have aH:K.In s.heap:=aG.k.keeps st
 simp only[Bool.and_eq_true,bne_iff_ne] at L
 obtain⟨⟨⟨⟨⟨d1,d2⟩,d3⟩,d4⟩,d5⟩,d6⟩:=L
 have aa:=tY lC
 have ae:=tY lD
 obtain⟨hh,g,d,t,B⟩:=s
 refine AD PySem.F.excBase_Exception ay aw az aH hC i1 i2 (λV e hm=>?_)
 have M:∀b o,hh.get? b=some o->V.get? b=some o:=hm.keeps
 have ar:hh.NoLimit:=aG.nolimit.keeps st
 refine wpAny_call (codeAny_mono (tU (Q:=λr s'=>r=.none/\Q (.ref e) s') (E:=E) (s:=⟨V,g,d,t,B⟩) OC dC (λb o q=>M b o (aH b o q)) (ar.keeps M) (by rw[ai];rfl) (tX nC) (λx hx=>(aa x (by rw[←ai];exact hx)).1)
  (by show A.depth+1<1000;lia) λc f t2 e1 e2 e3 e4 n2 O=>?_) ?_)
 ·have j:c.scope.kind=.function:=by rw[e1];exact OC.kind
  rw[ai] at n2
  obtain⟨m1,m2,m3⟩:=three (u:=Value.ref e) (v:=y1) (w:=y2) d1 d2 d3
  rw[←e2] at n2
  have ag:∀x∈[sf,a,b],c.scope.names.lookup x=some .local/\cQ x=true:=λx hx=>by rw[e1];exact aa x hx
  have p:=ag sf (by simp)
  have ha:=ag a (by simp)
  have hb:=ag b (by simp)
  rw[bC]
  refine wpAny_execs_cons ?_
  refine wpAny_Expr ?_ (by unfold interactive;rw[j];rfl) rfl
  refine s_ (by rfl) (by rfl) af ?_
  have av:H.StaysIn f:=λb o q=>O b o (M b o (st b o q))
  have X2:K.In f:=aG.k.keeps av
  refine wpAny_Name (qe (s:=⟨f,g,d,t2,B⟩) aG av j (by rw[e1];exact cg) e3 e4 aB (λz hz=>hz []) ?_) (hV cn)
  intro pl
  refine method_cls (s:=⟨f,g,d,t2,B⟩) X2 g1 (cls_value (s:=⟨f,g,d,t2,B⟩) X2 g2 g3 g4 ?_)
  refine mS (K:=K) (first:=[]) (λh aH=>keeps_K g5 h aH) rfl ?_
  refine wpAny_items_cons ?_ (iI rfl)
  refine lE (s:=⟨f,g,d,t2+1,B⟩) j p.1 p.2 n2 m1 ?_
  refine wpAny_items_cons ?_ (iI rfl)
  refine wpAny_Constant_str ?_
  refine wpAny_items_cons ?_ (iI rfl)
  refine wpAny_List ?_
  refine wpAny_items_cons ?_ (iI rfl)
  refine lE (s:=⟨f,g,d,_,B⟩) j ha.1 ha.2 n2 m2 ?_
  refine wpAny_items_cons ?_ (iI rfl)
  refine lE (s:=⟨f,g,d,_,B⟩) j hb.1 hb.2 n2 m3 ?_
  refine wpAny_items_nil ?_
  refine⟨by size_fits,?_⟩
  refine wpAny_items_nil ?_
  have P:∀b o,f.get? b=some o->(f.push {cls:=.type "list",data:=.seq #[y1,y2]}).get? b=some o:=λb o q=>Heap.get?_push_of_some _ q
  refine⟨λb o q=>P b o (X2 b o q),?_⟩
  refine wpAny_call (codeAny_mono (tU (Q:=λr s'=>r=.none/\∃i h' tk,s'=⟨h',g,d,tk,B⟩/\(∀b o,b≠e->f.get? b=some o->i.get? b=some o)/\∃t,ExcAt i h' e C #[.ref t,.none,.none,.none,.bool false,.none] 2) (E:=λ_ _=>False)
   OD dD (λb o q=>P b o (X2 b o q)) (ar.keeps λb o q=>P b o (O b o (M b o q))) (by rw[aj];rfl) (tX nD) (λx hx=>(ae x (by rw[←aj];exact hx)).1)
   (by show A.depth+1+1<1000;lia) λl h4 t4 f1 f2 f3 f4 n4 aq=>?_) ?_)
  ·have ao:l.scope.kind=.function:=by rw[f1];exact OD.kind
   rw[aj] at n4
   obtain⟨w1,w2,w3⟩:=three (u:=Value.ref e) (v:=Value.str aC (t2+1)) (w:=Value.ref f.objs.size) d4 d5 d6
   rw[←f2] at n4
   have ah:∀x∈[au,x1,x2],l.scope.names.lookup x=some .local/\cQ x=true:=λx hx=>by rw[f1];exact ae x hx
   have R:=ah au (by simp)
   have ga:=ah x1 (by simp)
   have gb:=ah x2 (by simp)
   obtain⟨t,he,_,_⟩:=hm.there
   have ak:=aq _ _ (P _ _ (O _ _ he))
   have I0:ExcAt (hideAll h4 [e]) h4 e C #[.ref t,.none,.none,.none,.bool false,.none] 0:=⟨⟨_,ak,rfl,rfl,rfl,.inl rfl⟩,hideAll_none [e] (.head _),λb o q=>m4 q⟩
   have eL:l.locals≠e:=λq=>by
    obtain⟨o,V,f⟩:=eP n4
    rw[q,ak] at V
    ext V
    exact f _ rfl
   have y:∀b o,b≠e->f.get? b=some o->(hideAll h4 [e]).get? b=some o:=λb o n q=>jX b o n (aq _ _ (P _ _ q))
   have X0:K.In (hideAll h4 [e]):=λb o q=>y b o (λz=>by have:=aH b o q;rw[z,hm.new] at this;ext this) (X2 b o q)
   have n0:(hideAll h4 [e]).Ns l.locals _:=mI n4 λo q=>jX _ o eL q
   rw[bD]
   refine wpAny_execs_cons ?_
   refine m6 (s:=⟨h4,g,d,t4,B⟩) X0 EC (by simp) ao R.1 ga.1 R.2 ga.2 n0 w1 w2 I0 (by lia) λh5 t5 I5=>?_
   refine wpAny_execs_cons ?_
   refine m6 (s:=⟨h5,g,d,t5,B⟩) X0 EC (by simp) ao R.1 gb.1 R.2 gb.2 n0 w1 w3 I5 (by lia) λh6 t6 I6=>?_
   exact wpAny_execs_nil ⟨rfl,rfl,_,h6,t6,rfl,y,t,I6⟩
  ·intro rr s' z
   rcases rr with e'|(v|_|_|_)
   ·exact z.elim
   ·exact z.elim
   ·exact z.elim
   ·exact z.elim
   ·obtain⟨rfl,i,h6,t6,rfl,y,t,I6⟩:=z
    have X0:K.In i:=λb o q=>y b o (λz=>by have:=aH b o q;rw[z,hm.new] at this;ext this) (X2 b o q)
    obtain⟨t',he,_,_⟩:=hm.there
    have aA:=O _ _ he
    have eL:c.locals≠e:=λq=>by
     obtain⟨o,V,f⟩:=eP n2
     rw[q,aA] at V
     ext V
     exact f _ rfl
    have n0:i.Ns c.locals _:=mI n2 λo q=>y _ o eL q
    show wpAny _ _ (execs _ c) _ _ _
    refine wpAny_execs_cons ?_
    refine m6 (s:=⟨h6,g,d,t6,B⟩) X0 EC (by simp) j p.1 ha.1 p.2 ha.2 n0 m1 m2 I6 (by lia) λh7 t7 I7=>?_
    refine wpAny_execs_cons ?_
    refine m6 (s:=⟨h7,g,d,t7,B⟩) X0 EC (by simp) j p.1 hb.1 p.2 hb.2 n0 m1 m3 I7 (by lia) λh8 t8 I8=>?_
    refine wpAny_execs_nil ⟨rfl,rfl,?_⟩
    obtain⟨ox,o1,o2,o3,_⟩:=I8.obj
    exact hq h8 t8 e t ox (λb o q=>I8.keep _ _ (y b o (λz=>by rw[z,hm.new] at q;ext q) (O _ _ (M _ _ q)))) hm.new o1 o2 o3
 ·intro rr s' z
  rcases rr with e|(v|_|_|_)<;>exact z
end
section
variable{J:Program}{w:World}{H:Heap}{F:List Env}{L C:Addr}{X ρ₁ S:List Addr}{G σ':Hp}{I loc':List (Str×V)}{h h' W:Heap}
variable{A:Around}{E:Value->Shared->Prop}{s:Shared}{Z:Env}{Y en':En}{T:Tb}{K:Frag}{m:Value}{n:Nat}{Fn:Fs}{r:RS}{Q:Flow->Shared->Prop}
theorem AH{e:Addr}{x:Obj}{t:Addr}(D:Sg J w H F L X G I s.heap)(k:∀b o,s.heap.get? b=some o->h'.get? b=some o)(u:s.heap.get? e=none)(f:h'.get? e=some x)(p:x.cls=m)
 (r:x.data=.fields #[.ref t,.none,.none,.none,.bool false,.none]):cW J w H F L X s m G I X h' e:=by
 have h:∀b o,b≠e->b∉b7 F->s.heap.get? b=some o->(hideAll h' (e::b7 F)).get? b=some o:=λb o v y q=>hideAll_get _ (k b o q) λz=>(List.mem_cons.mp z).elim v y
 have n:∀b o,s.heap.get? b=some o->b≠e:=λb o q z=>by rw[z,u] at q;ext q
 obtain⟨j,E⟩:=D.more k
 refine⟨⟨hideAll h' (e::b7 F),λb o q=>h b o (n b o (D.keep _ _ q)) (λz=>by rw[(D.ff.mem z).1] at q;ext q) (D.keep _ _ q),?_,λi o a A l=>?_,λa c=>?_,λb o E K B q=>h b o (n b o q) B q⟩,λb o E K M q=>⟨o.slots,k _ _ q⟩,List.prefix_refl _,λa c=>.inl c,D.off,D.nd,D.len,D.b6,j.loc,D.dN⟩
 ·refine⟨λb o q=>of_hideAll _ q,hideAll_none _ (.head _),funFrames_hide j.ff λZ f a c=>.tail _ (List.mem_filterMap.mpr ⟨Z,f,c⟩),.ref t,.inl ⟨x,_,f,p,r,rfl,rfl⟩⟩
 ·obtain⟨g,d,C⟩:=D.cell i o a A l
  exact⟨g,h _ _ (n _ _ d) (λz=>D.dN a z (List.mem_of_getElem? l)) d,C⟩
 ·obtain⟨g,d⟩:=D.live a c
  exact⟨g,h _ _ (n _ _ d) (λz=>D.dN a z c) d⟩
theorem AI{c:Str}{y:List Expr}{q0 r0 p:Pos}(aj:Gd J w T K H)(x:lF K T T.cH)(i:m=.ref T.cH)(M:dp T (Str.ofString "__debug__")=none)(hs:ez J w H m n Fn.bL)
 (R:Rm A F (n+1))(ak:Sg J w H F L X G Y.loc s.heap)(N:bG Z Y F L X)(hf:ee y=true)
 (b:(if kU T Y c then lift Y (Fn.bL Y y G) λu G=>if Nat.beq u.length 2 then some (.exc Y.loc G) else .none else .none)=some r)
 (k:K2 J w H F L X s m r Q E):wpAny (model J w) A (exec (.Raise (some (.Call (.Name c q0) y [] r0)) none p) Z) Q E s:=by
 have st:=(lu hf).1
 obtain⟨nm,q,N',bs,bm,sn,sub,ab,col,dd,k0,k1,k2,k3,k5,hC,af,ae,ag,D⟩:=x.cls
 split at b
 case isFalse=>ext b
 rename_i V
 obtain⟨g,f⟩:=Bool.and_eq_true_iff.mp V
 have l:dp T c=some (.old T.cH):=by
  split at f
  ·rename_i v hv;rw[hv,ef.mp f]
  ·ext f
 have O:Z.scope.names.lookup c=some .globalImplicit:=by
  clear b
  unfold jM at g
  rw[dr] at g
  rw[N.names]
  split at g
  ·assumption
  ·ext g
 have j:cQ c=true:=by
  clear b
  unfold cQ
  cases z:sq c (Mi.z "__debug__") with
  |false=>rfl
  |true=>rw[d7.mp z] at l;rw[show dp T (Mi.z "__debug__")=none from M] at l;ext l
 rw[arm_exec_Raise]
 refine wpAny_bind (wpAny_standAt ?_)
 refine AE (C:=T.cH) (nm:=nm) (q:=q) (N:=N') (bs:=bs) (bm:=bm) (hdct:=true) (sn:=sn) (sub:=sub) (ab:=ab) (col:=col) (dd:=dd) (k0:=k0) (k1:=k1) (k2:=k2) (k3:=k3) (k5:=k5) (newId:="Exception.__new__") D R.2.1 ?_
 refine wpAny_bind ?_
 rw[pT (by intro o a q h;ext h)]
 refine wpAny_bind ?_
 refine wpAny_Name (qe aj ak.keep N.kind O N.glob N.blt l (λz hz=>hz []) ?_) (hV j)
 refine mS (K:=K) (first:=[]) (λh ao=>keeps_K x.keep h ao) st ?_
 refine fy (P:=λX u ys=>All2 (VR X) u ys) b k (λe1 k1=>hs (R.le (by lia)) ak N st e1 k1) λ{u ai ρ₁ d tk ys} B ah S1 p1 k1=>?_
 clear k
 split at B
 case isFalse=>ext B
 rename_i hlen
 ext B
 refine⟨aj.k.keeps S1.keep,?_⟩
 refine AG (s:={s with heap:=d,toks:=tk}) aj x S1.keep (by have:=R.2.2.1;omega) (by rw[List.nil_append,←p1.length];exact Nat.eq_of_beq_eq_true hlen) λh' aa e t ox kp hn b hc hd=>?_
 refine wpAny_bind (wpAny_standAt (wpAny_pure ⟨e,t,ox,rfl,kp _ _ (aj.k.keeps S1.keep _ _ hC),b,hc,hd,?_⟩))
 exact k1 ρ₁ h' aa e (AH (s:={s with heap:=d,toks:=tk}) S1 kp hn b (i▸hc) hd)
inductive fU(K:Frag)(R D:Nat):Prop
 |mk (nm q N bs bm hd sn sub ab col dd k0 k1 k2 k3 k5 nid nm' q' N' bs' bm' hd' sn' sub' ab' col' dd' k0' k1' k2' k3' k5' nid')
  (hC:K.lookup R=some (excClassObj nm q R N bs bm hd sn sub ab col dd k0 k1 k2 k3 k5 nid)) (hD:K.lookup D=some (excClassObj nm' q' D N' bs' bm' hd' sn' sub' ab' col' dd' k0' k1' k2' k3' k5' nid'))
  (m1:(Value.ref R::bm).contains (.ref D)=true) (m2:(Value.ref D::bm').contains (.type "BaseException")=true):fU K R D
variable{M:Model}{nm q:Str}{N:Addr}{bs bm:List Value}{hdct:Bool}{sn:List Str}{sub:List Value}{ab:Bool}{col:Option Bool}{dd:Option Addr}{k0 k1 k2 k3 k5:Option Value}{newId:String}{nm' q':Str}{D N':Addr}{bs' bm':List Value}{hdct':Bool}{sn':List Str}{sub':List Value}{ab':Bool}{col':Option Bool}{dd':Option Addr}{k0' k1' k2' k3' k5':Option Value}{newId':String}
theorem AJ{h:Heap}{g:Array GenState}{d:Drawn}{t:Nat}{s:OsState}{e:Addr}{o:Obj}{Q:Bool->Shared->Prop}
 (i:h.get? C=some (excClassObj nm q C N bs bm hdct sn sub ab col dd k0 k1 k2 k3 k5 newId))(b:h.get? D=some (excClassObj nm' q' D N' bs' bm' hdct' sn' sub' ab' col' dd' k0' k1' k2' k3' k5' newId'))(j:h.get? e=some o)(c:o.cls=.ref C)
 (a:(Value.ref C::bm).contains (.ref D)=true)(B:(Value.ref D::bm').contains (.type "BaseException")=true)
 (k:Q true ⟨h,g,d,t,s⟩):wpAny M A (excMatches (.ref e) (.ref D)) Q E ⟨h,g,d,t,s⟩:=by
 have f:=tc_notTuple
 unfold excMatches
 repeat(first|(with_reducible refine wpAny_loadPart_at j ?_;rw[c])|with_reducible refine wpAny_loadPart_at b ?_|(with_reducible refine wpAny_isSubtype_exc b ?_;rw[B])|(with_reducible refine wpAny_isSubtype_exc i ?_;rw[a])|wp_step)
 exact k
end
section
variable{J:Program}{w:World}{H:Heap}{F:List Env}{L C:Addr}{X ρ₁ S:List Addr}{G σ' σ₀:Hp}{I loc' loc₀:List (Str×V)}{h h' W:Heap}
variable{A:Around}{E:Value->Shared->Prop}{s:Shared}{Z:Env}{Y en':En}{T:Tb}{K:Frag}{m:Value}{n:Nat}{Fn:Fs}{r:RS}{Q:Flow->Shared->Prop}
theorem AK(h:fR T Y c=true):∃D,(D=T.cH\/D=T.base)/\dp T c=some (.old D)/\Y.sc.lookup c=some .globalImplicit:=by
 unfold fR at h
 obtain⟨a,b⟩:=Bool.and_eq_true_iff.mp h
 have s:Y.sc.lookup c=some .globalImplicit:=by
  unfold jM at a
  rw[dr] at a
  split at a
  ·assumption
  ·ext a
 split at b
 ·rename_i v d
  rcases Bool.or_eq_true_iff.mp b with q|q
  ·exact⟨_,.inl rfl,by rw[d,ef.mp q],s⟩
  ·exact⟨_,.inr rfl,by rw[d,ef.mp q],s⟩
 ·ext b
theorem tZ{e:Addr}{tk:Nat}{c:Str}{cp u:Pos}{t:Option Str}{hb:List Stmt}{aa:List ExceptHandler}(ar:Gd J w T K H)(CO:fU K T.cH T.cH/\fU K T.cH T.base)(v:m=.ref T.cH)(af:dp T (Str.ofString "__debug__")=none)
 (R:Rm A F n)(tp:Top Z F L)(au:Sg J w H F L X σ₀ loc₀ s.heap)(N:bG Z Y F L X)(av:cW J w H F L X s m σ' loc' S h' e)(hc:fR T Y c=true)
 (k:∀l tk,(∃B a0,H.StaysIn B/\Heap.FlyingW B F e m a0 l/\(∀(i:Nat) (o:O) (a:Addr),σ'.get i=some o->S[i]? =some a->∃V,B.get? a=some V/\OR J w S o V)/\(∀a∈S,∃V,B.get? a=some V)/\
   ∀b o,b∉X->b≠L->b∉b7 F->s.heap.get? b=some o->B.get? b=some o)->h'.UpToSlots l->cW J w H F L X s m σ' loc' S l e->
   codeAny (model J w) (A.mark (some (.ref e))) (.handlers (.ref e) [.ExceptHandler none t hb u] Z) (λr d=>match r with
    |.ok f=>(match t with
     |none=>Q f d
     |some n=>wpAny (model J w) A (do bindName Z n .none;unbindBehindTheSuite Z n u) (λ_ g=>Q f g) E d)
    |.error x=>cameBackBy (model J w) A Z E x d) {s with heap:=l,toks:=tk}):
 wpAny (model J w) A (noteFrame (.ref e) Z) (λ_ d=>wpAny (model J w) A (setFlight (.ref e) none) (λ_ g=>wpAny (model J w) A (handleBy (.ref e) Z (.ExceptHandler (some (.Name c cp)) t hb u::aa)) Q E g) E d) E {s with heap:=h',toks:=tk}:=by
 obtain⟨ai,rfl,hf⟩:=tp
 obtain⟨B,b1,b2,b3,b4,b5⟩:=av.base
 refine lz (s:={s with heap:=h',toks:=tk}) R.1 hf b2 λh1 j M=>?_
 obtain⟨a0,j⟩:=j
 have X1:=av.up au ⟨B,b1,iJ hf j,b3,b4,b5⟩ M
 refine wpAny_landsW (s:={s with heap:=h1,toks:=tk}) j λl p P=>?_
 have X2:=X1.up au ⟨B,b1,mT p,b3,b4,b5⟩ P
 obtain⟨D,hD,h,ah⟩:=AK hc
 have y:cQ c=true:=by
  unfold cQ
  cases z:sq c (Mi.z "__debug__") with
  |false=>rfl
  |true=>rw[d7.mp z] at h;rw[show dp T (Mi.z "__debug__")=none from af] at h;ext h
 have CD:fU K T.cH D:=hD.elim (λq=>q▸CO.1) (λq=>q▸CO.2)
 obtain⟨nm,q,N',bs,bm,hd,sn,sub,ab,col,dd,k0,k1,k2,k3,k5,aq,nm',q',ak,bs',bm',ao,sn',sub',ab',col',dd',k0',k1',k2',k3',k5',aj,hC,ae,m1,m2⟩:=CD
 have S2:=X2.sg au
 have XK:K.In l:=ar.k.keeps S2.keep
 obtain⟨V,ag,C⟩:=p.there
 refine wpAny_handleBy_cons (codeAny_handlers_test ?_) (by intro q;ext q)
 refine wpAny_Name (qe (s:={s with heap:=l,toks:=tk}) ar S2.keep N.kind (by rw[N.names];exact ah) N.glob N.blt h (λz hz=>hz []) ?_) (hV y)
 refine AJ (XK _ _ hC) (XK _ _ ae) ag (C.trans v) m1 m2 ?_
 exact k l tk ⟨B,a0,b1,p,b3,b4,b5⟩ (M.trans P) X2
theorem t9{b:List Stmt}{r:RS}{l:ExceptHandler}{p:Pos}(v:fw J w H m n Fn.ax)(R:Rm A F (n+1))(z:Top Z F L)(B:Sg J w H F L X G Y.loc s.heap)(N:bG Z Y F L X)(j:Fn.ax Y b G=some r)
 (o:∀f I a,r=.ok f I a->K2 J w H F L X s m (.ok f I a) Q E)
 (x:∀I a,r=.exc I a->∀c h t e,cW J w H F L X s m a I c h e->
   wpAny (model J w) A (noteFrame (.ref e) Z) (λD d=>wpAny (model J w) A (setFlight (.ref e) none) (λD g=>wpAny (model J w) A (handleBy (.ref e) Z [l]) Q E g) E d) E {s with heap:=h,toks:=t}):
 wpAny (model J w) A (exec (.Try b [l] [] [] p) Z) Q E s:=by
 refine wpAny_Try_except ?_
 refine v (R.le (by lia)) z B N j ?_
 clear j
 cases r with
 |ok f I a=>
  clear x
  have k:=o f I a rfl
  clear o
  intro c h t y i S1 u
  have q:=k c h t y i S1 u
  clear u
  cases y with
  |next=>exact wpAny_execs_nil q
  |_=>exact q
 |exc I a=>exactλc h t e C=>x I a rfl c h t e C
theorem AL{b:List Stmt}{c x:Str}{p q0 r0 t0 u0 v0:Pos}{kk:Nat}(ab:Gd J w T K H)(CO:fU K T.cH T.cH/\fU K T.cH T.base)(a:m=.ref T.cH)(i:dp T (Str.ofString "__debug__")=none)(hs:fw J w H m n Fn.ax)
 (R:Rm A F (n+1))(D:Top Z F L)(ae:Sg J w H F L X G Y.loc s.heap)(N:bG Z Y F L X)(h:iD T Y c x (Fn.ax Y b G)=some r)(k:K2 J w H F L X s m r Q E):
 wpAny (model J w) A (exec (.Try b [.ExceptHandler (some (.Name c q0)) none [.Assign [.Name x r0] (.Constant .none kk t0) u0] v0] [] [] p) Z) Q E s:=by
 generalize P:Fn.ax Y b G=zz at h
 cases zz with
 |none=>ext h
 |some rr=>
  refine t9 hs R D ae N P (λf I d o=>?_) λI d o aa h1 t1 e af=>?_
  ·subst o;ext h;exact k
  ·clear P
   subst o
   have h:(if fR T Y c then dz (bZ ⟨Y.sc,I,Y.bF⟩ d x .none) else .none)=some r:=h
   split at h
   case isFalse=>ext h
   rename_i hc
   refine tZ ab CO a i R D ae N af hc λh2 t2 hB hu X2=>?_
   obtain⟨B,a0,b1,j,b3,b4,b5⟩:=hB
   refine codeAny_handlers_suite ?_
   refine lands_againW (s:={s with heap:=h2,toks:=t2}) j λh3 l u=>?_
   obtain⟨t,hF,hf⟩:=id D
   have g:=X2.up ae ⟨B,b1,by
    rw[hF] at l⊢
    exact mT l,b3,b4,b5⟩ u
   have S3:=g.sg ae
   have z:=g.step
   refine wpAny_execs_cons ?_
   refine wpAny_Assign_Name ?_ (p_ rfl)
   refine wpAny_Constant_none ?_
   refine wpAny_mono (tv (Y:=⟨Y.sc,I,Y.bF⟩) (Q:=λf V=>f=.next/\Q .next V) (E:=λ_ _=>False) (cls:=m) (s:={s with heap:=h3,toks:=t2}) S3 (N.pre g.pre).jh h (v:=.none) rfl ?_) (λ_ V q=>?_) λ_ _ q=>q.elim
   ·cases r with
    |ok f loc' σ'=>
     intro M h4 t4 y C O p4
     unfold dz at h
     split at h
     ·ext h
      clear h
      ext p4
      exact⟨rfl,k M h4 t4 _ (z.trans C O.b6) O rfl⟩
     ·ext h
    |exc loc' σ'=>
     unfold dz at h
     split at h<;>specialize h
   ·exact wpAny_execs_nil q.2
variable{M:Model}{nm q:Str}{N:Addr}{bs bm:List Value}{hdct:Bool}{sn:List Str}{sub:List Value}{ab:Bool}{col:Option Bool}{dd:Option Addr}{k0 k1 k2 k3 k5:Option Value}{newId:String}
theorem AM{a:Type}{e:Addr}{Q:a->Shared->Prop}(b:A.handled=some (.ref e))(h:E (.ref e) s):wpAny M A (raiseNew (.ref e):Sem a) Q E s:=by
 unfold raiseNew
 refine wpAny_bind (wpAny_handled ?_)
 rw[b]
 dsimp only
 rw[if_neg (by simp)]
 exact wpAny_bind (wpAny_pure (wpAny_throw h))
theorem AN{e:Addr}{x:Sem Value}{Q:Flow->Shared->Prop}(b:bm.contains (.type "BaseException")=true)(r:A.handled=some (.ref e))
 (h:wpAny M A x (λv a=>v=.ref e/\a.heap.get? C=some (excClassObj nm q C N bs bm hdct sn sub ab col dd k0 k1 k2 k3 k5 newId)/\(∃o l,a.heap.get? e=some o/\o.cls=.ref C/\o.data=.fields l)/\wpAny M A (setFlight (.ref e) none) (λF k=>E (.ref e) k) E a) E s):
 wpAny M A (raiseStmt Z (some x) none) Q E s:=by
 have B:(Value.ref C::bm).contains (.type "BaseException")=true:=by rw[List.contains_cons,b,Bool.or_true]
 unfold raiseStmt
 refine wpAny_bind (wpAny_mono h (λv a c=>?_) λF H x=>x)
 obtain⟨rfl,f,⟨o,l,p,i,j⟩,n⟩:=c
 obtain⟨z,u,t,w⟩:=o
 dsimp only at i j
 subst i j
 obtain⟨y,g,d,tk,D⟩:=a
 repeat(first|with_reducible refine wpAny_bind (wpAny_mono n (λF k h'=>AM r h') λF H x=>x)|with_reducible refine wpAny_loadPart_at p ?_|with_reducible refine wpAny_loadPart_at f ?_|(with_reducible refine wpAny_isSubtype_exc f ?_;rw[B])|wp_step)
end
section
variable{J:Program}{w:World}{H:Heap}{F:List Env}{L C e:Addr}{X ρ₁ S:List Addr}{G σ' σ₀:Hp}{I loc' loc'' loc₀:List (Str×V)}{h h' W B:Heap}{a0:Value}
variable{A:Around}{E:Value->Shared->Prop}{s:Shared}{Z:Env}{Y en':En}{T:Tb}{K:Frag}{m:Value}{n:Nat}{Fn:Fs}{r:RS}{Q:Flow->Shared->Prop}
theorem t_{l:Addr}{O D:Str->Option Value}(x:Heap.HeldW B F e m a0 l h)(C:Heap.SameBut L h h')(A:B.get? L=none)(n:h.Ns L O)(E:h'.Ns L D):Heap.HeldW B F e m a0 l h':=by
 obtain⟨k1,k2,k3,K,v,T,H,ts,s,c,r,w,i,g,p,f,y⟩:=x
 obtain⟨N,u,j⟩:=eP n
 have t:∀b o v,h.get? b=some o->o.data=.fields v->b≠L:=λb o v q d z=>by rw[z,u] at q;ext q;exact j _ d
 have k:∀b o,b≠L->h.get? b=some o->h'.get? b=some o:=λb o z q=>(C.2 b z).trans q
 refine⟨λb o q=>k b o (λz=>by rw[z,A] at q;ext q) (k1 b o q),k2,gh k3 λa M o q j=>?_,K,v,T,H,ts,k _ _ (t _ _ _ s r) s,c,r,w,i,g,k _ _ (t _ _ _ p f) p,f,y⟩
 by_cases z:a=L
 ·subst z;exact eP E
 ·exact⟨o,k a o z q,j⟩
theorem AO{C:Str->Option Value}(v:s.heap.FunFrames H F)(A:cW J w H F L X s m σ' loc' S h' e)(g:Heap.SameBut L h' W)(n:W.Ns L C)(l:LR S loc'' C)
 (T:∃B,H.StaysIn B/\fS m B F e W/\(∀(i:Nat) (o:O) (a:Addr),σ'.get i=some o->S[i]? =some a->∃c,B.get? a=some c/\OR J w S o c)/\(∀a∈S,∃c,B.get? a=some c)/\
   ∀b o,b∉X->b≠L->b∉b7 F->s.heap.get? b=some o->B.get? b=some o):cW J w H F L X s m σ' loc'' S W e:=by
 obtain⟨D,j,k,p,q,r,t,u,y,x⟩:=A
 exact⟨T,λb o d h f e=>(let⟨sl,z⟩:=j b o d h f e;⟨sl,(g.2 b h).trans z⟩),k,p,q,r,t,u,⟨C,n,l⟩,x⟩
theorem AP(ah:Sg J w H F L X σ₀ loc₀ s.heap)(aa:L∈b7 F)(ai:cW J w H F L X s m σ' loc' S h' e)(b2:Heap.FlyingW B F e m a0 h')(b4:∀a∈S,∃c,B.get? a=some c)
 (b5:∀b o,b∉X->b≠L->b∉b7 F->s.heap.get? b=some o->B.get? b=some o){p:Hp}{t:List (Str×V)}(u:Sg J w H F L S p t W)(P:Step S [L] h' S W):
 ∃y,H.StaysIn y/\Heap.FlyingW y F e m a0 W/\(∀(i:Nat) (o:O) (a:Addr),p.get i=some o->S[i]? =some a->∃c,y.get? a=some c/\OR J w S o c)/\(∀a∈S,∃c,y.get? a=some c)/\
  (∀b o,b∉X->b≠L->b∉b7 F->s.heap.get? b=some o->y.get? b=some o)/\∀A,W.UpToSlots A->fS m y F e A->cW J w H F L X s m p t S A e:=by
 obtain⟨k1,k2,k3,oe,vs,T,oT,ts,R,E,hd,h1,M,ab,hT,K,A⟩:=b2
 have ag:B.get? L=none:=(k3.mem aa).1
 have nL:∀b o vs,h'.get? b=some o->o.data=.fields vs->b≠L:=λb o vs q d z=>by
  obtain⟨aj,n,_⟩:=ai.loc
  obtain⟨oL,eL,nf⟩:=eP n
  rw[z,eL] at q;ext q;exact nf _ d
 have N:∀b,B.get? b=none->b∉S:=λb q z=>by obtain⟨c,w⟩:=b4 b z;rw[q] at w;ext w
 have kp:∀b o,b∉S->b≠L->h'.get? b=some o->W.get? b=some o:=λb o j f q=>P.keep b o j (λz=>f (List.mem_singleton.mp z)) q
 have x:∀b o,B.get? b≠none->b∉b7 F->W.get? b=some o->(hideAll W (e::T::b7 F)).get? b=some o:=λb o j f q=>hideAll_get _ q λz=>by
  rcases List.mem_cons.mp z with z|z
  ·exact j (z▸k2)
  ·rcases List.mem_cons.mp z with z|z
   ·exact j (z▸M)
   ·exact f z
 have hH:∀b o,H.get? b=some o->b∉b7 F:=λb o q z=>by rw[(ah.ff.mem z).1] at q;ext q
 obtain⟨⟨B',c1,c2,c3,c4,c5⟩,x2,x3,x4,x5,x6,x7,x8,x9,Q⟩:=ai
 have k:∀b o,b∉X->b≠L->b∉b7 F->s.heap.get? b=some o->(hideAll W (e::T::b7 F)).get? b=some o:=λb o j f C q=>by
  have hb:=b5 b o j f C q
  have h:b∉S:=λz=>by
   rcases x4 b z with w|w
   ·exact j w
   ·rw[w] at q;ext q
  exact x b o (by rw[hb];simp) C (kp b o h f (k1 _ _ hb))
 have D:H.StaysIn (hideAll W (e::T::b7 F)):=λb o q=>k b o (λz=>by rw[ah.off b z] at q;ext q) (λz=>by rw[z,ah.eO] at q;ext q) (hH b o q) (ah.keep b o q)
 have g:∀(i:Nat) (o:O) (a:Addr),p.get i=some o->S[i]? =some a->∃c,(hideAll W (e::T::b7 F)).get? a=some c/\OR J w S o c:=λi o a j f=>by
  obtain⟨c,z1,z2⟩:=u.cell i o a j f
  have r:=List.mem_of_getElem? f
  obtain⟨ae,w'⟩:=b4 a r
  exact⟨c,x a c (by rw[w'];simp) (λz=>u.dN a z r) z1,z2⟩
 have v:∀a∈S,∃c,(hideAll W (e::T::b7 F)).get? a=some c:=λa r=>by
  obtain⟨c,z1⟩:=u.live a r
  obtain⟨ae,w'⟩:=b4 a r
  exact⟨c,x a c (by rw[w'];simp) (λz=>u.dN a z r) z1⟩
 refine⟨hideAll W (e::T::b7 F),D,⟨λb o q=>of_hideAll _ q,hideAll_none _ (.head _),funFrames_hide u.ff λZ R a r=>.tail _ (.tail _ (List.mem_filterMap.mpr ⟨Z,R,r⟩)),oe,vs,T,oT,ts,kp _ _ (N _ k2) (nL _ _ _ R hd) R,E,hd,h1,hideAll_none _ (.tail _ (.head _)),ab,kp _ _ (N _ M) (nL _ _ _ hT K) hT,K,A⟩,g,v,k,λA hu th=>?_⟩
 refine⟨⟨_,D,th,g,v,k⟩,λb o j f C q=>?_,x3,x4,x5,x6,u.len,x8,?_,Q⟩
 ·obtain⟨sl,z⟩:=x2 b o j f C q
  have h:b∉S:=λz=>Q b C z
  obtain⟨_,o',e',nf⟩:=ah.ff.mem C
  rw[q] at e';ext e'
  obtain⟨af,z'⟩:=hu b _ (kp b _ h f z) nf
  exact⟨af,z'⟩
 ·obtain⟨aj,n,l⟩:=u.loc
  exact⟨aj,hu.ns n,l⟩
theorem ua{I:List (Str×V)}{x n:Str}{v:V}{s:List (Str×NameKind)}{c:List (Str×Nat)}(h:x≠n):Mi.name T ⟨s,put n v I,c⟩ G x=Mi.name T ⟨s,I,c⟩ G x:=by
 rw[jc,jc,dr,dr,dr,dr]
 dsimp only
 rw[jP,if_neg h]
theorem AQ{b:List Stmt}{c o a1 a2 y n n':Str}{p q0 p1 p2 p3 p4 p5 p6 p7 p8:Pos}{bw:Nat}(bq:Gd J w T K H)(TC:∀C cl,T.cls C=some cl->gN K C cl)(RK:lF K T T.cH)(CO:fU K T.cH T.cH/\fU K T.cH T.base)(ak:m=.ref T.cH)(a7:dp T (Str.ofString "__debug__")=none)
 (hs:fw J w H m bw Fn.ax)(R:Rm A F (bw+1))(tp:Top Z F L)(br:Sg J w H F L X G Y.loc s.heap)(N:bG Z Y F L X)(aQ:(sq n n'&&cQ o&&cQ y&&cQ n)=true)(g:g_ T Y c o a1 a2 y n (Fn.ax Y b G)=some r)(k:K2 J w H F L X s m r Q E):
 wpAny (model J w) A (exec (.Try b [.ExceptHandler (some (.Name c q0)) (some n) [.Assign [.Attribute (.Attribute (.Name o p1) a1 p2) a2 p3] (.Name y p4) p5,.Raise (some (.Name n' p6)) none p7] p8] [] [] p) Z) Q E s:=by
 obtain⟨aO,dn⟩:=Bool.and_eq_true_iff.mp aQ
 clear aQ
 obtain⟨aN,dy⟩:=Bool.and_eq_true_iff.mp aO
 clear aO
 obtain⟨aq,dO⟩:=Bool.and_eq_true_iff.mp aN
 clear aN
 have aq:=d7.mp aq
 subst aq
 generalize e1:Fn.ax Y b G=zz at g
 cases zz with
 |none=>ext g
 |some rr=>
  refine t9 hs R tp br N e1 (λf I ar hr=>?_) λI ar hr d h1 t1 e bu=>?_
  ·subst hr;ext g;exact k
  ·clear e1
   subst hr
   unfold g_ at g
   dsimp only at g
   split at g
   case h_2=>ext g
   rename_i yv bh
   split at g
   case h_2=>ext g
   rename_i ov ba
   split at g
   case h_2=>ext g
   rename_i av a5
   split at g
   case h_2=>ext g
   rename_i au aW
   split at g
   case isFalse=>ext g
   rename_i t
   ext g
   obtain⟨aD,j⟩:=Bool.and_eq_true_iff.mp t
   clear t
   obtain⟨aC,ag⟩:=Bool.and_eq_true_iff.mp aD
   clear aD
   obtain⟨a6,hc⟩:=Bool.and_eq_true_iff.mp aC
   clear aC
   obtain⟨ai,ah⟩:=Bool.and_eq_true_iff.mp a6
   have ai:y≠n:=λz=>by rw[z,jO] at ai;ext ai
   have ah:o≠n:=λz=>by rw[z,jO] at ah;ext ah
   have l:Y.sc.lookup n=some .local:=by
    have:=List.all_eq_true.mp ag n (.head _)
    split at this
    ·rename_i z;rw[dr] at z;exact z
    ·ext this
   have aM:I.lookup n=none:=by
    clear l
    rw[dr] at j
    cases z:I.lookup n with
    |none=>rfl
    |some v=>rw[z] at j;ext j
   obtain⟨ae,hF,hf⟩:=id tp
   have aA:L∈b7 F:=by rw[hF];show L∈(Z::ae).filterMap _;rw[List.filterMap_cons,hf];exact .head _
   have aJ:Z.kindOf n=some .local:=by show Z.scope.names.lookup n=_;rw[N.names];exact l
   have aK:(Z.scope.kind==.class||(Z.scope.kind==.module&&Z.locals !=Z.globals))=false:=by rw[N.kind];rfl
   refine tZ bq CO ak a7 R tp br N bu hc λh2 t2 hB hu X2=>?_
   obtain⟨B,a0,b1,a8,b3,b4,b5⟩:=hB
   refine codeAny_handlers_suite_as ?_
   refine lands_againW (s:={s with heap:=h2,toks:=t2}) a8 λh3 D bc=>?_
   have X3:=X2.up br ⟨B,b1,by
    rw[hF] at D⊢
    exact mT D,b3,b4,b5⟩ bc
   have S3:=X3.sg br
   have N3:bG Z ⟨Y.sc,I,Y.bF⟩ F L d:=(N.pre X3.pre).jh
   have aw:bZ ⟨Y.sc,I,Y.bF⟩ ar n (.old e)=some (⟨Y.sc,put n (.old e) I,Y.bF⟩,ar):=by
    rw[jd,dr,l]
   refine ji (s:={s with heap:=h3,toks:=t2}) (Y:=⟨Y.sc,I,Y.bF⟩) S3 N3 aw (v:=.old e) rfl λh4 t4 S4 P4 N4=>?_
   clear aw
   refine wpAny_execs_cons ?_
   rw[arm_exec_Assign]
   refine wpAny_bind (wpAny_standAt ?_)
   rw[jV rfl]
   refine wpAny_bind (wpAny_pure ?_)
   rw[if_neg Bool.false_ne_true]
   refine wpAny_bind ?_
   refine wpAny_Name (k_ (s:={s with heap:=h4,toks:=t4}) bq S4 N4 ((ua ai).trans bh) λy1 vy=>?_) (hV dy)
   rw[show swappedStores [.Attribute (.Attribute (.Name o p1) a1 p2) a2 p3] (.Name y p4) Z=pure none from rfl]
   refine wpAny_bind (wpAny_pure ?_)
   show wpAny (model J w) (A.mark (some (.ref e))) (do assignAll y1 [assign (.Attribute (.Attribute (.Name o p1) a1 p2) a2 p3) Z];pure Flow.next) _ _ _
   refine wpAny_bind ?_
   show wpAny _ _ (assign (.Attribute (.Attribute (.Name o p1) a1 p2) a2 p3) Z y1) _ _ _
   rw[arm_assign_Attribute]
   refine wpAny_bind (wpAny_holding ?_)
   refine Attribute_any_ ?_ (by rw[arm_eval_Attribute,pM rfl])
   refine wpAny_Name (k_ (s:={s with heap:=h4,toks:=t4}) bq S4 N4 ((ua ah).trans ba) λo1 vo=>?_) (hV dO)
   refine sJ (s:={s with heap:=h4,toks:=t4}) bq TC S4 a5 vo λv1 t5 vv=>?_
   refine wpAny_bind (wpAny_standAt (wpAny_bind (wpAny_holding ?_)))
   refine sL (s:={s with heap:=h4,toks:=t5}) bq TC S4 aW vv vy λh5 t6 S5 P5=>?_
   clear S4
   refine wpAny_release' (wpAny_pure ?_)
   have aX:Step d [L] h3 d h5:=P4.trans P5
   obtain⟨B2,d1,M,d3,d4,d5,kX⟩:=AP br aA X3 D b4 b5 S5 aX
   have N5:bG Z ⟨Y.sc,put n (.old e) I,Y.bF⟩ F L d:=N4
   clear N4
   refine wpAny_execs_cons ?_
   rw[arm_exec_Raise]
   refine wpAny_bind (wpAny_standAt ?_)
   obtain⟨nm,q,N',bs,bm,sn,sub,ab,col,dd,k0,k1,k2,k3,k5,hC,bo,bl,bp,a4⟩:=RK.cls
   refine AN (C:=T.cH) (nm:=nm) (q:=q) (N:=N') (bs:=bs) (bm:=bm) (hdct:=true) (sn:=sn) (sub:=sub) (ab:=ab) (col:=col) (dd:=dd) (k0:=k0) (k1:=k1) (k2:=k2) (k3:=k3) (k5:=k5) (newId:="Exception.__new__") (e:=e) a4 rfl ?_
   refine wpAny_bind ?_
   have aP:Mi.name T ⟨Y.sc,put n (.old e) I,Y.bF⟩ au n=some (.old e):=by
    rw[jc,dr,l]
    clear l
    dsimp only
    rw[dr,jP,if_pos rfl]
   clear l
   refine wpAny_Name (k_ (s:={s with heap:=h5,toks:=t6}) bq S5 N5 aP λz hz=>?_) (hV dn)
   clear aP N5
   ext hz
   refine wpAny_bind (wpAny_standAt (wpAny_pure ?_))
   refine⟨rfl,bq.k.keeps S5.keep _ _ hC,?_,?_⟩
   ·obtain⟨_,_,_,oe,vs,T',oT,ts,g1,⟨g2,_⟩,g3,_⟩:=M
    exact⟨oe,vs,g1,g2.trans ak,g3⟩
   ·clear S5
    refine lands_againW (s:={s with heap:=h5,toks:=t6}) M λh6 aF bf=>?_
    have aG:(A.mark (some (.ref e))).frames=some (Z::ae):=by rw[←hF];exact R.1
    have P:=aF
    rw[hF] at P
    refine lz (s:={s with heap:=h6,toks:=t6}) aG hf (mT P) λh7 V bg=>?_
    obtain⟨bk,V⟩:=V
    have X7:=kX h7 (bf.trans bg) (by rw[hF];exact iJ hf V)
    clear kX
    have az:B2.get? L=none:=(M.2.2.1.mem aA).1
    obtain⟨m7,n7,l7⟩:=X7.loc
    have aB:wpAny (model J w) (A.mark (some (.ref e))) (storeName Z n .none) (λ_ s'=>∃h8 t8,s'={s with heap:=h8,toks:=t8}/\h8.Ns L (λz=>if z=n then some .none else m7 z)/\Heap.SameBut L h7 h8) (λ_ _=>False) {s with heap:=h7,toks:=t6}:=
     wpAny_storeName_local aJ (N.locals▸n7) (λh8 n8 aa=>⟨h8,_,rfl,N.locals▸n8,N.locals▸aa⟩) aK
    refine wpAny_bind (wpAny_bindName (wpAny_mono aB (λ_ s' q=>?_) λ_ _ q=>q.elim))
    clear aB
    obtain⟨h8,t8,rfl,n8,aa⟩:=q
    unfold unbindBehindTheSuite
    refine wpAny_onRaise (wpAny_unbindName_local (s:={s with heap:=h8,toks:=t8}) aJ (N.locals▸n8) (v:=.none) (by simp) aK λh9 u n9 aj=>?_)
    rw[N.locals] at n9 aj
    rw[←hF] at V
    have a9:=t_ V aa az n7 n8
    have aI:=t_ a9 aj az n8 n9
    clear n8
    have l9:LR d I (λx=>if x=n then u else if x=n then some .none else m7 x):=λz=>by
     clear n9
     by_cases hz:z=n
     ·subst hz;rw[aM];trivial
     ·simp only[hz,if_false]
      have:=l7 z
      rw[jP,if_neg hz] at this
      exact this
    have hT:∀{af:Heap} {a0:Value},Heap.HeldW B2 F e m a0 L af->∃B,H.StaysIn B/\fS m B F e af/\(∀(i:Nat) (o:O) (a:Addr),au.get i=some o->d[i]? =some a->∃ob,B.get? a=some ob/\OR J w d o ob)/\(∀a∈d,∃ob,B.get? a=some ob)/\
     ∀b o,b∉X->b≠L->b∉b7 F->s.heap.get? b=some o->B.get? b=some o:=λhh=>⟨B2,d1,by rw[hF] at hh⊢;exact iJ hf hh,d3,d4,d5⟩
    have aS:Heap.SameBut L h7 h9:=⟨aj.1.trans aa.1,λb hb=>(aj.2 b hb).trans (aa.2 b hb)⟩
    have X9:cW J w H F L X s m au I d h9 e:=AO br.ff X7 aS n9 l9 (hT aI)
    clear n9
    refine tN (s:={s with heap:=h9,toks:=t8}) hf aI λaf ao aT=>?_
    have aY:=X9.up br (hT ao) aT
    unfold notedBy
    refine lz (s:={s with heap:=af,toks:=t8}) aG hf (iJ hf (hF▸ao)) λay h aU=>?_
    obtain⟨bj,h⟩:=h
    rw[←hF] at h
    have aZ:=aY.up br (hT h) aU
    show cameBackBy (model J w) A Z E (.ref e) {s with heap:=ay,toks:=t8}
    unfold cameBackBy
    refine tn (s:={s with heap:=ay,toks:=t8}) hf h λa3 aH aV=>?_
    exact k d a3 t8 e (aZ.up br (hT aH) aV)
structure jY(J:Program)(w:World)(T:Tb)(K:Frag)(H:Heap)(cls:Value):Prop where
 g:Gd J w T K H
 tc:∀C cl,T.cls C=some cl->gN K C cl
 eM:iG K T
 kp:pR K T
 fn:∀a f,T.fn a=some f->fT K a f
 AR:∀C c,T.cls C=some c->mU K C c.init
 rk:lF K T T.cH
 co:fU K T.cH T.cH/\fU K T.cH T.base
 cls:cls=.ref T.cH
 db:dp T (Str.ofString "__debug__")=none
structure gn(J:Program)(w:World)(T:Tb)(H:Heap)(m:Value)(n:Nat):Prop where
 ev:cw J w H m n (run T n).ev
 tr:hU J w H m n (run T n).ev
 bL:ez J w H m n (run T n).bL
 ub:pJ J w H m n (run T n).fk
 all:pK J w H m n (run T n).fk
 tests:jW J w H m n (run T n).tests
 dJ:pV J w H m n (run T n).dJ
 call:lx J w H m n (run T n).call
 ex:pZ J w H m n (run T n).ex
 ax:fw J w H m n (run T n).ax
theorem AS:gn J w T H m 0:=by
 constructor
 ·intro A F L X Z Y G s e r Q E R c N q;ext q
 ·intro A F L X Z Y G s e r Q E R c N q;ext q
 ·intro A F L X Z Y G s e r p Q E R c N t q;ext q
 ·intro A F L X Z Y G s o e r p Q E R c N q;ext q
 ·intro A F L X Z Y G s o e r Q E R c N q;ext q
 ·intro A F L X Z Y G s e r Q E R c N q;ext q
 ·intro A F L X I G s v y a ys r Q E R c q;ext q
 ·intro A F L X I G s v a ys r Q E R c q;ext q
 ·intro A F L X Z Y G s t r Q E R b c N q;ext q
 ·intro A F L X Z Y G s t r Q E R b c N q;ext q
theorem AU(af:jY J w T K H m)(P:gn J w T H m n)(y:∀ag,ag<n->gn J w T H m ag):cw J w H m (n+1) (run T (n+1)).ev:=by
 intro A F L X Z Y G s e r Q E R ae N q k
 change mq T (run T n) Y (shape e) G=some r at q
 have v:=mP e
 generalize shape e=sh at q v
 cases sh with
 |const c=>
  obtain⟨_,_,rfl⟩:=v;exact yH ae q k
 |name x=>
  obtain⟨_,rfl,V⟩:=v;exact yI af.g ae N V q k
 |bool u vs=>
  obtain⟨_,rfl⟩:=v;exact P.ub (R.le (by lia)) ae N q k
 |bin l u C=>
  obtain⟨_,rfl⟩:=v;exact yJ af.g P.ev R ae N q k
 |not x=>
  obtain⟨_,rfl⟩:=v;exact yK P.ev R ae N q k
 |neg B=>
  obtain⟨_,_,_,rfl⟩:=v;exact yL ae q k
 |fO t b o=>
  obtain⟨_,rfl⟩:=v;exact zb (T:=T) P.ev P.tr R ae N q k
 |iy=>
  obtain⟨_,rfl⟩:=v;ext q;exact yM ae k
 |list O=>
  obtain⟨_,rfl,d⟩:=v;exact yN P.bL R ae N d q k
 |tup O=>
  obtain⟨_,_,rfl,d⟩:=v;exact yO P.bL R ae N d q k
 |cmp l u C=>
  obtain⟨_,rfl,d⟩:=v;exact yP af.g P.ev R ae N d q k
 |i7 l u C ab r2=>
  obtain⟨_,rfl,_,d⟩:=v;exact yR af.g P.ev R ae N d q k
 |attr o a=>
  obtain⟨_,rfl,h⟩:=v;exact yT af.g af.tc P.ev R ae N h q k
 |«from» o B=>
  obtain⟨_,_,_,_,rfl⟩:=v;exact yZ P.ev R ae N q k
 |jG o B=>
  obtain⟨_,_,_,_,rfl⟩:=v;exact y_ af.g P.ev R ae N q k
 |rev o=>
  obtain⟨_,_,_,_,_,rfl⟩:=v;exact za P.ev R ae N q k
 |sub o i=>
  obtain⟨_,rfl,_⟩:=v;exact yW af.g P.ev R ae N q k
 |fm o a D=>
  obtain⟨_,_,rfl,j,h,hl⟩:=v;exact zq af.g af.tc P.ev P.bL P.call R ae N j h hl q k
 |call f D=>
  obtain⟨_,rfl,j,p⟩:=v;exact zr af.g af.kp P.ev P.bL P.dJ R ae N j p q k
 |lc M x it aa sc=>
  obtain⟨_,_,rfl,hs⟩:=v
  exact Au af.g P.ev P.bL (λag z=>⟨(y ag z).ev,(y ag z).tests⟩) (R.le (by lia)) ae N hs q k
 |no=>ext q
theorem eS(g:cw J w H m (n+1) (run T (n+1)).ev){A:Around}{F:List Env}{L:Addr}{X:List Addr}{Z:Env}{Y:En}{G:Hp}{s:Shared}{e:Expr}{r:R V}{Q:Bool->Shared->Prop}{E:Value->Shared->Prop}
 (a:Rm A F (n+1))(i:Sg J w H F L X G Y.loc s.heap)(N:bG Z Y F L X)(q:(run T (n+1)).ev Y e G=some r)(c:∀v σ',r=.ok v σ'->∃b,truth v=some b)
 (k:K1 J w H F L X Y.loc s m (λj v b=>truth v=some b) r Q E)(f:isTrue e Z (eval e Z)=(do let v←eval e Z;standAt e.pos;holding [v] (truthy v))):wpAny (model J w) A (isTrue e Z (eval e Z)) Q E s:=by
 refine wpAny_isTrue_value ?_ f
 refine g a i N q ?_
 clear q
 cases r with
 |ok v σ'=>
  obtain⟨b,h⟩:=c v σ' rfl
  clear c
  intro S h' tk y t d p
  rw[jU h p]
  exact wpAny_truthy_bool (k S h' tk b t d h)
 |exc σ'=>exact k
theorem AV(ai:jY J w T K H m)(P:gn J w T H m n)(u:cw J w H m (n+1) (run T (n+1)).ev):hU J w H m (n+1) (run T (n+1)).ev:=by
 intro A F L X Z Y G s e r Q E R ah N d p k
 have q:=d
 change mq T (run T n) Y (shape e) G=some r at q
 have j:=mP e
 generalize shape e=sh at q j
 cases sh with
 |const c=>
  obtain⟨_,_,rfl⟩:=j;exact eS u R ah N d p k rfl
 |name x=>
  obtain⟨_,rfl,hd⟩:=j;exact eS u R ah N d p k rfl
 |bool M vs=>
  obtain⟨_,rfl⟩:=j;exact wpAny_isTrue_BoolOp (P.all (R.le (by lia)) ah N q k)
 |bin l M rr=>
  obtain⟨_,rfl⟩:=j;exact eS u R ah N d p k rfl
 |not x=>
  clear d p
  obtain⟨_,rfl⟩:=j
  refine wpAny_isTrue_Not ?_
  refine cI (P:=λ_ v b=>truth v=some b) q k (λO k1=>P.tr (R.le (by lia)) ah N O (lr P.tr (x:=none) q (λa σ' r h=>by obtain⟨b,z,_⟩:=map_some h;exact⟨b,z⟩) O) k1) λ{v σ' ρ₁ B tk y} V ag S1 p1 k1=>?_
  clear k q
  obtain⟨b,D,rfl⟩:=map_some V
  clear V
  have hy:b=y:=Option.some.inj (D.symm.trans p1)
  subst hy
  exact Norm.now (s:={s with heap:=B,toks:=tk}) (P:=λ_ b'=>truth (.bool (!b))=some b') k1 S1 rfl tk
 |neg kk=>
  obtain⟨_,_,_,rfl⟩:=j;exact eS u R ah N d p k rfl
 |fO t b o=>
  obtain⟨_,rfl⟩:=j;exact zc (T:=T) P.tr R ah N q p k
 |iy=>
  obtain⟨_,rfl⟩:=j;exact eS u R ah N d p k rfl
 |list es=>
  obtain⟨_,rfl,C⟩:=j;exact eS u R ah N d p k rfl
 |tup es=>
  obtain⟨_,_,rfl,C⟩:=j;exact eS u R ah N d p k rfl
 |cmp l M rr=>
  obtain⟨_,rfl,C⟩:=j;exact yQ ai.g P.ev R ah N C q k
 |i7 l M rr af r2=>
  obtain⟨_,rfl,_,C⟩:=j;exact yS ai.g P.ev R ah N C q k
 |attr o a=>
  obtain⟨_,rfl,D⟩:=j;exact eS u R ah N d p k rfl
 |«from» o kk=>
  obtain⟨_,_,_,_,rfl⟩:=j;exact eS u R ah N d p k rfl
 |jG o kk=>
  obtain⟨_,_,_,_,rfl⟩:=j;exact eS u R ah N d p k rfl
 |rev o=>
  obtain⟨_,_,_,_,_,rfl⟩:=j;exact eS u R ah N d p k rfl
 |sub o i=>
  obtain⟨_,rfl,_⟩:=j;exact eS u R ah N d p k rfl
 |fm o a as=>
  obtain⟨_,_,rfl,hf,D,hl⟩:=j;exact eS u R ah N d p k rfl
 |call f as=>
  obtain⟨_,rfl,hf,ab⟩:=j;exact eS u R ah N d p k rfl
 |lc aa x it ae sc=>
  obtain⟨_,_,rfl,hs⟩:=j;exact eS u R ah N d p k rfl
 |no=>ext q
theorem AW(ab:jY J w T K H m)(P:gn J w T H m n)(f:∀ae,ae<n->gn J w T H m ae):pZ J w H m (n+1) (run T (n+1)).ex:=by
 intro A F L X Z Y G s u r Q E R p aa N q k
 change kW T (run T n) Y (gY u) G=some r at q
 have i:=zL u
 generalize gY u=sh at q i
 cases sh with
 |expr e=>
  obtain⟨_,rfl,h⟩:=i;exact zN P.ev R aa N h q k
 |pass=>
  obtain⟨_,rfl⟩:=i;ext q
  exact wpAny_Pass (Norm.now (P:=λS y=>FR S .next y) k aa rfl s.toks)
 |ret e=>
  obtain⟨_,rfl⟩:=i;exact zO P.ev R aa N q k
 |kI x e=>
  obtain⟨_,_,rfl,h⟩:=i;exact zP P.ev R aa N h q k
 |jH x v y V O sc=>
  obtain⟨_,_,_,_,rfl,z,B,C⟩:=i
  exact Av ab.g P.ev P.bL (λae d=>⟨(f ae d).ev,(f ae d).tests⟩) (R.le (by lia)) aa N z B C q k
 |jI o a e=>
  obtain⟨_,_,rfl,h⟩:=i;exact zQ ab.g ab.tc P.ev R aa N h q k
 |jJ o j e=>
  obtain⟨_,_,rfl,h⟩:=i;exact zR P.ev R aa N h q k
 |i8 xs e=>
  obtain⟨_,_,_,_,rfl,l,h⟩:=i;exact z0 P.ev R aa N l h q k
 |fO t b o=>
  obtain⟨_,rfl⟩:=i;exact zS P.tr P.ax R p aa N q k
 |cA t b=>
  obtain⟨_,rfl⟩:=i
  exact z4 (λae d=>⟨(f ae d).tr,(f ae d).ax⟩) (R.le (by lia)) p aa N q k
 |«for» x V b=>
  obtain⟨_,_,rfl,M⟩:=i
  exact Aa ab.g P.ev P.bL (λae d=>(f ae d).ax) (R.le (by lia)) p aa N M q k
 |raise c as=>
  obtain⟨_,_,_,rfl,D⟩:=i;exact AI ab.g ab.rk ab.cls ab.db P.bL R aa N D q k
 |kJ b c x=>
  obtain⟨_,_,_,_,_,_,_,rfl⟩:=i;exact AL ab.g ab.co ab.cls ab.db P.ax R p aa N q k
 |kK b c o a1 a2 y n=>
  obtain⟨_,_,_,_,_,_,_,_,_,_,_,rfl,l⟩:=i;exact AQ ab.g ab.tc ab.rk ab.co ab.cls ab.db P.ax R p aa N l q k
 |no=>ext q
theorem AX(b:jY J w T K H m)(P:gn J w T H m n)(a:∀c,c<n->gn J w T H m c):gn J w T H m (n+1):=by
 have h:cw J w H m (n+1) (run T (n+1)).ev:=AU b P a
 exact⟨h,AV b P h,yG (T:=T) (Fn:=run T n) P.ev P.bL,zd (T:=T) (Fn:=run T n) P.ev P.ub,ze (T:=T) (Fn:=run T n) P.tr P.all,An (T:=T) (Fn:=run T n) P.tr,zE (Fn:=run T n) b.g b.eM b.AR P.call,zD (Fn:=run T n) b.g b.fn P.ax,
  AW b P a,zM (T:=T) (Fn:=run T n) P.ex P.ax⟩
theorem specs(b:jY J w T K H m):∀n,gn J w T H m n:=by
 intro n
 have:∀n,(∀c,c<=n->gn J w T H m c):=by
  intro n
  induction n with
  |zero=>intro c a;rw[Nat.le_zero.mp a];exact AS
  |succ n i=>
   intro c a
   rcases Nat.lt_or_ge c (n+1) with h|h
   ·exact i c (by lia)
   ·rw[Nat.le_antisymm a h];exact AX b (i n (Nat.le_refl _)) λc a=>i c (by omega)
 exact this n n (Nat.le_refl _)
end
end Sd
set_option maxHeartbeats 0
namespace Hd
open PySem PySem.W
noncomputable section
noncomputable abbrev z(x:String):Str:=Str.ofString x
noncomputable abbrev vn:Value:=.none
noncomputable abbrev vt:Value:=.bool true
noncomputable abbrev vf:Value:=.bool false
noncomputable abbrev j(k:Int):Value:=.int k 0
noncomputable abbrev i(k:Int)(t:Nat):Value:=.int k t
noncomputable abbrev s(x:String)(t:Nat):Value:=.str (Str.ofString x) t
noncomputable abbrev y(x:String):Value:=.type x
noncomputable abbrev u(x:String):Value:=.builtin x
noncomputable abbrev r(a:Nat):Value:=.ref a
noncomputable abbrev oT(l:List Value):Obj:=⟨.type "tuple",none,.seq l.toArray 0, #[]⟩
noncomputable abbrev oF(l:List Value):Obj:=⟨.none,none,.fields l.toArray, #[]⟩
noncomputable abbrev oC(l:List Value):Obj:=⟨.type "code",none,.fields l.toArray, #[]⟩
noncomputable abbrev oM(l:List Value):Obj:=⟨.type "builtin_function_or_method",none,.fields l.toArray, #[]⟩
noncomputable abbrev oG(l:List Value):Obj:=⟨.type "getset_descriptor",none,.fields l.toArray, #[]⟩
noncomputable abbrev oS(l:List Value):Obj:=⟨.type "super",none,.fields l.toArray, #[]⟩
noncomputable abbrev oR(l:List (Option Value)):Obj:=⟨.type "frame",none,.plain,l.toArray⟩
noncomputable abbrev ent(P:Params)(x:String)(t:Nat)(v:Value):DictEntry:=⟨PyData.keyHash P (Str.ofString x),.str (Str.ofString x) t,v⟩
def ents(P:Params)(l:List (String×Nat×Value)):List DictEntry:=@List.rec (String×Nat×Value) (λa=>List DictEntry) [] (λe a i=>ent P e.1 e.2.1 e.2.2::i) l
abbrev oD(P:Params)(n:Nat)(l:List (String×Nat×Value)):Obj:=⟨.type "dict",none,.dict (ents P l).toArray n, #[]⟩
abbrev oE(P:Params)(n:Nat)(l:List (String×Nat×Value)):Obj:=⟨.none,none,.dict (ents P l).toArray n, #[]⟩
abbrev oL(P:Params)(n:Nat)(l:List (String×Nat×Value)):Obj:=⟨.type "frame",none,.dict (ents P l).toArray n, #[]⟩
noncomputable abbrev oI(c:Nat)(d:Option Nat):Obj:=⟨.ref c,d,.plain, #[]⟩
noncomputable abbrev oY(l:List (Option Value))(c:ClassData):Obj:=⟨.type "type",none,.cls c,l.toArray⟩
abbrev k(a t:Nat)(n q:String)(l c f:Int):Obj:=oC [s n t,s q (t+1),s "/claim/cut.py" (t+2),j l,j c,j 0,j 0,j f,r (a-5),vt,j 181,r (a-4),vn,r (a-3),r (a-2),r (a-1),j (t+4:Nat),j l,s "/claim/cut.py" (t+5)]
abbrev fi(t:Nat):Value:=s "/claim/cut.py" t
abbrev RR(a b:Nat)(p:Value):Obj:=oR [some (r a),some (r 3),some (r b),none,some p,none,some (r 0)]
abbrev YY(k:Option Value)(t d:Nat)(n w:String)(x:Value)(a m:List Value)(c:Nat)(h:Bool)(b:List Value):Obj:=oY [k,none,some (s n t),some (s n d),some (u w),some x] {name:=z n,bases:=a,mro:=m,ns:=c,qualname:=z n,hasDict:=h,slotNames:=[],subclasses:=b,abstract:=false,collection:=none,hasDel:=false}
abbrev SS(a:Nat)(e:List Obj):List Obj:=oS [r a,r a,r a]::oM [u "object.__init_subclass__",r a]::e
abbrev NN(l:List Value)(r:List Obj):List Obj:=oT l::oM [u "type.__prepare__",y "type"]::r
abbrev KF(a t u:Nat)(n q:String)(l c f:Int)(x y:Value):Obj:=oC [s n t,s q (t+1),fi (t+2),j l,j c,j 0,j 0,j f,r (a-5),vt,j 181,r (a-4),vn,x,y,r (a-1),j (u:Nat),j l,fi (u+1)]
abbrev K3(a t:Nat)(n q:String)(l c f:Int):Obj:=oC [s n t,s q (t+1),fi (t+2),j l,j c,j 0,j 0,j f,r (a-3),vt,j 181,r (a-2),vn,vn,vn,r (a-1),j (t+3:Nat),j l,fi (t+4)]
abbrev KC(a t:Nat)(n q:String)(l:Int):Obj:=oC [s n t,s q (t+1),fi (t+2),j l,j 0,j 0,j 0,j 0,r (a-2),vf,j 181,r (a-1),vn,vn,vn,vn,j (t+3:Nat),j l,fi (t+4)]
def AY(l:List String)(t:Nat):List Value:=@List.rec String (λa=>Nat->List Value) (λa=>[]) (λx a i t=>s x t::i (t+1)) l t
noncomputable abbrev Bd:List Stmt:=behindTheImports PySem.Challenge.pw_pq1046_01
noncomputable def pt:Stmt->Arguments×List Stmt×Scope
 |.FunctionDef c a b d e f s g h i=>(a,b,s)
 |_=>default
def fp(x m:Nat):Arguments×List Stmt×Scope:=match Bd[x]? with
 |some (.ClassDef a c d b e f g h i j k)=>match b[m]? with
  |some s=>pt s
  |none=>default
 |some s=>pt s
 |none=>default
abbrev h(x m:Nat)(n q:String):Obj:=⟨.none,none,.func {name:=z n,qualname:=z q,params:=(fp x m).1,body:=.stmts (fp x m).2.1,scope:=(fp x m).2.2,globals:=0,closure:=[],defaults:=.none,kwdefaults:=.none}, #[]⟩
abbrev w(x m:Nat)(n q:String)(d p c:Value):Obj:=⟨.type "function",none,.func {name:=z n,qualname:=z q,params:=(fp x m).1,body:=.stmts (fp x m).2.1,scope:=(fp x m).2.2,globals:=3,closure:=[],defaults:=d,kwdefaults:=.none,pyModule:=p,code:=c}, #[]⟩
abbrev F1(t:Nat)(n:List String)(r:List Obj):List Obj:=oT []::oF []::oT (AY n (t+3))::oT []::r
abbrev F2(a t u x m:Nat)(n q:String)(p:Value)(l c f:Int)(e:List Obj):List Obj:=h x m n q::KF a t u n q l c f (r (a-3)) (r (a-2))::w x m n q vn p (r a)::e
abbrev FF(a t u x m:Nat)(n q:String)(p:Value)(l c f:Int)(s:List String)(r:List Obj):List Obj:=F1 t s (F2 a t u x m n q p l c f r)
abbrev bQ:Value:=s "scheme.core" 194
abbrev cq:Value:=s "scheme.data" 652
abbrev fV:Value:=s "scheme.errors" 959
abbrev m8:Value:=s "scheme.binary" 1048
abbrev m9:Value:=s "scheme.exact" 1081
abbrev cc:Value:=s "scheme.scopes" 1114
abbrev bY:Value:=s "scheme.rules" 1442
abbrev dc:Value:=s "scheme.corerules" 1934
abbrev eh:Value:=s "scheme.quasi" 2249
abbrev dK:Value:=s "scheme.derived" 2423
abbrev dA:Value:=s "scheme.expand" 2697
abbrev fz:Value:=s "scheme.names" 2965
abbrev jl:Value:=s "law_pq1046_01" 3072
abbrev uc:Value:=s "__main__" 164
def ud(P:Params):List DictEntry:=ents P [("__name__",165,jl),("__doc__",166,vn),("__package__",167,vn),("__loader__",168,u "__main__.__loader__#opaque"),("__spec__",169,vn),("__annotations__",170,r 6),("__builtins__",171,r 4),("__file__",173,s "/claim/cut.py" 172),("__cached__",174,vn),("_wall",193,r 21),("CONST",197,i 0 196),("LOCAL",199,i 1 198),("GLOBAL",201,i 2 200),("SET_LOCAL",203,i 3 202),("SET_GLOBAL",205,i 4 204),("DEFINE",207,i 5 206),("IF",209,i 6 208),("LAMBDA",211,i 7 210),("CALL",213,i 8 212),("SEQ",215,i 9 214),("Node",253,r 45),("Const",279,r 66),("Local",305,r 85),("Global",331,r 104),("SetLocal",374,r 137),("SetGlobal",417,r 170),("Define",460,r 203),("If",505,r 236),("Lambda",567,r 283),("Call",610,r 316),("Seq",651,r 349),("Special",682,r 710),("Special_data",683,r 368),("EMPTY",689,r 374),("UNSPECIFIED",695,r 377),("UNASSIGNED",701,r 380),("Symbol",732,r 398),("SymbolTable",810,r 461),("Pair",842,r 482),("Char",871,r 503),("Text",901,r 524),("Vector",931,r 545),("list_of",941,r 557),("split_list",951,r 564),("is_whole",958,r 571),("SchemeError",991,r 588),("SyntaxTrouble",1018,r 608),("MachineFault",1047,r 627),("Real",1080,r 647),("Ratio",1113,r 668),("MOST_DEEP",1117,i 3000 1116),("Alias",1152,r 689),("Special_scopes",1182,r 710),("LocalName",1213,r 731),("GlobalName",1242,r 752),("Macro",1275,r 773),("is_identifier",1282,r 784),("key_of",1289,r 791),("root_symbol",1296,r 798),("is_named",1304,r 805),("Scope",1390,r 864),("same_denotation",1398,r 875),("same",1408,r 882),("first_twice",1418,r 889),("alias_of",1427,r 896),("strip_one",1435,r 903),("strip",1441,r 908),("NAME",1445,i 1 1444),("LITERAL",1447,i 2 1446),("ATOM",1449,i 3 1448),("ROW",1451,i 4 1450),("CELLS",1453,i 5 1452),("ALIAS",1455,i 6 1454),("MANY",1457,i 7 1456),("NOTHING",1458,r 909),("MOST_NESTED",1460,i 150 1459),("MOST_WRITTEN",1464,i 1048576 1463),("ELLIPSIS",1466,s "..." 1465),("RULES_WORD",1468,s "syntax-rules" 1467),("Rule",1501,r 926),("is_ellipsis",1508,r 937),("PatternReader",1578,r 980),("TemplateReader",1655,r 1029),("names_in",1667,r 1040),("literal_keys",1677,r 1047),("need_flat",1692,r 1054),("read_rule",1705,r 1061),("is_rules_word",1713,r 1068),("read_rules",1719,r 1073),("same_atom",1727,r 1080),("Matcher",1809,r 1125),("match",1820,r 1136),("Writer",1899,r 1181),("going_on",1909,r 1192),("first_fitting",1920,r 1199),("transcribed",1933,r 1206),("MAKE_IF",1937,i 0 1936),("MAKE_CALL",1939,i 1 1938),("MAKE_SEQ",1941,i 2 1940),("MAKE_LAMBDA",1943,i 3 1942),("MAKE_SET_LOCAL",1945,i 4 1944),("MAKE_SET_GLOBAL",1947,i 5 1946),("MAKE_LETREC",1949,i 6 1948),("MAKE_DEFINE",1951,i 7 1950),("parts_of",1963,r 1213),("seq_of",1970,r 1220),("is_steady",1977,r 1227),("kept_values",1983,r 1232),("letrec_of",1989,r 1237),("made",1998,r 1244),("reference",2007,r 1251),("need_identifier",2015,r 1258),("formals_of",2029,r 1265),("bound_local",2039,r 1272),("do_quote",2049,r 1279),("do_if",2060,r 1286),("do_lambda",2071,r 1293),("leave_procedure",2077,r 1298),("do_set",2089,r 1305),("do_begin",2099,r 1312),("leave_sequence",2111,r 1319),("do_misplaced",2121,r 1326),("syntax_binding",2131,r 1333),("bind_keywords",2148,r 1340),("do_let_syntax",2160,r 1347),("do_letrec_syntax",2172,r 1354),("Definition",2210,r 1371),("definition_of",2219,r 1382),("leave_value",2229,r 1389),("CORE_RULES",2248,r 1390),("UNQUOTE",2252,s "unquote" 2251),("SPLICE",2254,s "unquote-splicing" 2253),("QUASIQUOTE",2256,s "quasiquote" 2255),("Template",2413,r 1491),("quasi",2422,r 1502),("word_of",2432,r 1509),("things_of",2442,r 1516),("inner_list",2452,r 1523),("is_word",2462,r 1530),("bindings_of",2474,r 1537),("sequence",2482,r 1544),("choice",2492,r 1551),("procedure",2501,r 1558),("kept",2511,r 1565),("do_and",2523,r 1572),("do_or",2536,r 1579),("do_let",2550,r 1586),("do_let_star",2565,r 1593),("do_letrec",2571,r 1598),("cond_clause",2585,r 1605),("do_cond",2598,r 1612),("case_test",2608,r 1619),("do_case",2623,r 1626),("step_of",2631,r 1633),("do_do",2655,r 1640),("do_delay",2665,r 1647),("do_quasiquote",2675,r 1654),("DERIVED",2696,r 1655),("EXPAND",2700,i 0 2699),("BODY",2702,i 1 2701),("MAKE",2704,i 2 2703),("PROCEDURE",2706,i 3 2705),("MOST_USES",2708,i 100000 2707),("KEYWORDS",2728,r 1656),("root_scope",2737,r 1663),("is_plain",2744,r 1670),("keyword_of",2753,r 1677),("Walk",2921,r 1781),("defined_at_top",2932,r 1792),("bind_at_top",2941,r 1799),("expand_top",2951,r 1806),("nodes_at_top",2964,r 1813),("Names",3071,r 1893),("_law_names",3080,r 1898),("_law_deck",3086,r 1903),("_law_draw",3095,r 1910),("_law_datum",3101,r 1915),("_law_part",3114,r 1922),("_law_meanings",3120,r 1927),("law",3126,r 1932)]
def ue:List Value:=[j 1,j 0,r 20,j 15,j 0,r 27,j 23,j 0,r 55,j 28,j 0,r 74,j 33,j 0,r 93,j 38,j 0,r 112,j 50,j 0,r 145,j 62,j 0,r 178,j 74,j 0,r 211,j 87,j 0,r 244,j 107,j 0,r 291,j 119,j 0,r 324,j 131,j 0,r 357,j 139,j 0,r 387,j 144,j 0,r 408,j 174,j 0,r 471,j 180,j 0,r 492,j 184,j 0,r 513,j 189,j 0,r 534,j 194,j 0,r 556,j 199,j 0,r 563,j 211,j 0,r 570,j 214,j 0,r 577,j 219,j 0,r 597,j 225,j 0,r 616,j 230,j 0,r 636,j 236,j 0,r 657,j 243,j 0,r 678,j 251,j 0,r 699,j 256,j 0,r 720,j 261,j 0,r 741,j 265,j 0,r 762,j 271,j 0,r 783,j 273,j 0,r 790,j 277,j 0,r 797,j 279,j 0,r 804,j 281,j 0,r 811,j 328,j 0,r 874,j 338,j 0,r 881,j 340,j 0,r 888,j 348,j 0,r 895,j 352,j 0,r 902,j 364,j 0,r 907,j 392,j 0,r 915,j 398,j 0,r 936,j 400,j 0,r 943,j 445,j 0,r 990,j 497,j 0,r 1039,j 513,j 0,r 1046,j 521,j 0,r 1053,j 538,j 0,r 1060,j 549,j 0,r 1067,j 551,j 0,r 1072,j 563,j 0,r 1079,j 579,j 0,r 1086,j 633,j 0,r 1135,j 638,j 0,r 1142,j 693,j 0,r 1191,j 699,j 0,r 1198,j 705,j 0,r 1205,j 720,j 0,r 1212,j 726,j 0,r 1219,j 728,j 0,r 1226,j 730,j 0,r 1231,j 739,j 0,r 1236,j 746,j 0,r 1243,j 762,j 0,r 1250,j 769,j 0,r 1257,j 772,j 0,r 1264,j 789,j 0,r 1271,j 793,j 0,r 1278,j 795,j 0,r 1285,j 801,j 0,r 1292,j 804,j 0,r 1297,j 813,j 0,r 1304,j 824,j 0,r 1311,j 826,j 0,r 1318,j 831,j 0,r 1325,j 833,j 0,r 1332,j 839,j 0,r 1339,j 850,j 0,r 1346,j 855,j 0,r 1353,j 860,j 0,r 1360,j 869,j 0,r 1381,j 879,j 0,r 1388,j 890,j 0,r 1396,j 978,j 0,r 1501,j 981,j 0,r 1508,j 983,j 0,r 1515,j 988,j 0,r 1522,j 993,j 0,r 1529,j 995,j 0,r 1536,j 1005,j 0,r 1543,j 1007,j 0,r 1550,j 1009,j 0,r 1557,j 1011,j 0,r 1564,j 1013,j 0,r 1571,j 1021,j 0,r 1578,j 1030,j 0,r 1585,j 1041,j 0,r 1592,j 1051,j 0,r 1597,j 1059,j 0,r 1604,j 1075,j 0,r 1611,j 1087,j 0,r 1618,j 1090,j 0,r 1625,j 1107,j 0,r 1632,j 1111,j 0,r 1639,j 1131,j 0,r 1646,j 1136,j 0,r 1653,j 1149,j 0,r 1662,j 1154,j 0,r 1669,j 1156,j 0,r 1676,j 1161,j 0,r 1683,j 1284,j 0,r 1791,j 1292,j 0,r 1798,j 1296,j 0,r 1805,j 1303,j 0,r 1812,j 1321,j 0,r 1819,j 1359,j 0,r 1902,j 1361,j 0,r 1909,j 1369,j 0,r 1914,j 1373,j 0,r 1921,j 1384,j 0,r 1926,j 1391,j 0,r 1931]
noncomputable abbrev nM:String:="__module__"
noncomputable abbrev nQ:String:="__qualname__"
noncomputable abbrev nL:String:="__firstlineno__"
noncomputable abbrev nS:String:="__static_attributes__"
noncomputable abbrev nI:String:="__init__"
noncomputable abbrev nD:String:="__doc__"
noncomputable abbrev nN:String:="__name__"
def c0(P:Params):List Obj:=boot_o_0 P::boot_o_1 P::oE P 3 [("type.__subclasses__.Exception.0",988,j 588),("type.__subclasses__.Exception.n",989,j 2),("type.__subclasses__.Exception.1",1044,j 627)]::⟨.type "dict",none,.dict (ud P).toArray 180, #[]⟩::boot_o_4 P::boot_o_5 P::boot_o_6 P::boot_o_7 P::boot_o_8 P::boot_o_9 P::boot_o_10 P::oT []::oF ue::KC 13 182 "<module>" "<module>" 1::RR 13 3 uc::FF 20 187 191 0 0 "_wall" "_wall" uc 1 1 3 ["k"] (NN [] (oD P 7 [(nM,223,bQ),(nQ,225,s "Node" 224),(nL,227,i 15 226),("kind",230,(i (-1) 229)),("parts",237,r 35),("with_parts",245,r 42),(nS,246,r 43)]::oT []::oF [j 18,j 4,r 34,j 21,j 4,r 41]::KC 27 218 "Node" "Node" 15::RR 27 24 bQ::oT []::oF []::oT [s "self" 234]::[]))
def c1(P:Params):List Obj:=oT []::F2 34 231 235 12 1 "parts" "Node.parts" bQ 18 1 3 (FF 41 238 243 12 2 "with_parts" "Node.with_parts" bQ 21 2 3 ["self","parts"] (oT []::oD P 4 [(nM,223,bQ),(nL,227,i 15 226),("kind",230,(i (-1) 229)),("parts",237,r 35),("with_parts",245,r 42),(nS,246,r 43),("__dict__",248,r 46),("__weakref__",250,r 47),(nD,251,vn)]::YY none 216 224 "Node" "object.__new__" vt [y "object"] [r 45,y "object"] 44 true [r 66,r 85,r 104,r 137,r 170,r 203,r 236,r 283,r 316,r 349]::oG [s "__dict__" 247,r 45,u "function.__dict__",u "function.__dict__#set"]::oG [s "__weakref__" 249,r 45,u "ExceptionGroup.__weakref__",vn]::SS 45 (NN [r 45] (oD P 6 [(nM,261,bQ),(nQ,263,s "Const" 262),(nL,265,i 23 264),("kind",266,i 0 196),(nI,274,r 63),(nS,276,r 64)]::oT []::oF [j 26,j 4,r 62]::KC 55 256 "Const" "Const" 23::RR 55 52 bQ::FF 62 267 272 13 1 nI "Const.__init__" bQ 26 2 3 ["self","value"] []))))
def c2(P:Params):List Obj:=oT [s "value" 275]::oD P 2 [(nM,261,bQ),(nL,265,i 23 264),("kind",266,i 0 196),(nI,274,r 63),(nS,276,r 64),(nD,277,vn)]::YY (some (r 50)) 254 262 "Const" "object.__new__" vt [r 45] [r 66,r 45,y "object"] 65 true []::SS 66 (NN [r 45] (oD P 6 [(nM,287,bQ),(nQ,289,s "Local" 288),(nL,291,i 28 290),("kind",292,i 1 198),(nI,300,r 82),(nS,302,r 83)]::oT []::oF [j 31,j 4,r 81]::KC 74 282 "Local" "Local" 28::RR 74 71 bQ::FF 81 293 298 14 1 nI "Local.__init__" bQ 31 2 3 ["self","number"] (oT [s "number" 301]::oD P 2 [(nM,287,bQ),(nL,291,i 28 290),("kind",292,i 1 198),(nI,300,r 82),(nS,302,r 83),(nD,303,vn)]::YY (some (r 69)) 280 288 "Local" "object.__new__" vt [r 45] [r 85,r 45,y "object"] 84 true []::SS 85 (NN [r 45] (oD P 6 [(nM,313,bQ),(nQ,315,s "Global" 314),(nL,317,i 33 316),("kind",318,i 2 200),(nI,326,r 101),(nS,328,r 102)]::oT []::oF [j 36,j 4,r 100]::KC 93 308 "Global" "Global" 33::RR 93 90 bQ::oT []::[])))))
def c3(P:Params):List Obj:=oF []::oT [s "self" 322,s "symbol" 323]::oT []::F2 100 319 324 15 1 nI "Global.__init__" bQ 36 2 3 (oT [s "symbol" 327]::oD P 2 [(nM,313,bQ),(nL,317,i 33 316),("kind",318,i 2 200),(nI,326,r 101),(nS,328,r 102),(nD,329,vn)]::YY (some (r 88)) 306 314 "Global" "object.__new__" vt [r 45] [r 104,r 45,y "object"] 103 true []::SS 104 (NN [r 45] (oD P 8 [(nM,339,bQ),(nQ,341,s "SetLocal" 340),(nL,343,i 38 342),("kind",344,i 3 202),(nI,353,r 120),("parts",360,r 127),("with_parts",368,r 134),(nS,371,r 135)]::oT []::oF [j 41,j 4,r 119,j 45,j 4,r 126,j 48,j 4,r 133]::KC 112 334 "SetLocal" "SetLocal" 38::RR 112 109 bQ::FF 119 345 351 16 1 nI "SetLocal.__init__" bQ 41 3 3 ["self","number","value"] (FF 126 354 358 16 2 "parts" "SetLocal.parts" bQ 45 1 3 ["self"] []))))
def c4(P:Params):List Obj:=FF 133 361 366 16 3 "with_parts" "SetLocal.with_parts" bQ 48 2 3 ["self","parts"] (oT [s "number" 369,s "value" 370]::oD P 2 [(nM,339,bQ),(nL,343,i 38 342),("kind",344,i 3 202),(nI,353,r 120),("parts",360,r 127),("with_parts",368,r 134),(nS,371,r 135),(nD,372,vn)]::YY (some (r 107)) 332 340 "SetLocal" "object.__new__" vt [r 45] [r 137,r 45,y "object"] 136 true []::SS 137 (NN [r 45] (oD P 8 [(nM,382,bQ),(nQ,384,s "SetGlobal" 383),(nL,386,i 50 385),("kind",387,i 4 204),(nI,396,r 153),("parts",403,r 160),("with_parts",411,r 167),(nS,414,r 168)]::oT []::oF [j 53,j 4,r 152,j 57,j 4,r 159,j 60,j 4,r 166]::KC 145 377 "SetGlobal" "SetGlobal" 50::RR 145 142 bQ::FF 152 388 394 17 1 nI "SetGlobal.__init__" bQ 53 3 3 ["self","symbol","value"] (F1 397 ["self"] (h 17 2 "parts" "SetGlobal.parts"::KF 159 397 401 "parts" "SetGlobal.parts" 57 1 3 (r 156) (r 157)::[])))))
def c5(P:Params):List Obj:=w 17 2 "parts" "SetGlobal.parts" vn bQ (r 159)::FF 166 404 409 17 3 "with_parts" "SetGlobal.with_parts" bQ 60 2 3 ["self","parts"] (oT [s "symbol" 412,s "value" 413]::oD P 2 [(nM,382,bQ),(nL,386,i 50 385),("kind",387,i 4 204),(nI,396,r 153),("parts",403,r 160),("with_parts",411,r 167),(nS,414,r 168),(nD,415,vn)]::YY (some (r 140)) 375 383 "SetGlobal" "object.__new__" vt [r 45] [r 170,r 45,y "object"] 169 true []::SS 170 (NN [r 45] (oD P 8 [(nM,425,bQ),(nQ,427,s "Define" 426),(nL,429,i 62 428),("kind",430,i 5 206),(nI,439,r 186),("parts",446,r 193),("with_parts",454,r 200),(nS,457,r 201)]::oT []::oF [j 65,j 4,r 185,j 69,j 4,r 192,j 72,j 4,r 199]::KC 178 420 "Define" "Define" 62::RR 178 175 bQ::FF 185 431 437 18 1 nI "Define.__init__" bQ 65 3 3 ["self","symbol","value"] (F1 440 ["self"] (h 18 2 "parts" "Define.parts"::[])))))
def c6(P:Params):List Obj:=KF 192 440 444 "parts" "Define.parts" 69 1 3 (r 189) (r 190)::w 18 2 "parts" "Define.parts" vn bQ (r 192)::FF 199 447 452 18 3 "with_parts" "Define.with_parts" bQ 72 2 3 ["self","parts"] (oT [s "symbol" 455,s "value" 456]::oD P 2 [(nM,425,bQ),(nL,429,i 62 428),("kind",430,i 5 206),(nI,439,r 186),("parts",446,r 193),("with_parts",454,r 200),(nS,457,r 201),(nD,458,vn)]::YY (some (r 173)) 418 426 "Define" "object.__new__" vt [r 45] [r 203,r 45,y "object"] 202 true []::SS 203 (NN [r 45] (oD P 8 [(nM,468,bQ),(nQ,470,s "If" 469),(nL,472,i 74 471),("kind",473,i 6 208),(nI,483,r 219),("parts",490,r 226),("with_parts",498,r 233),(nS,502,r 234)]::oT []::oF [j 77,j 4,r 218,j 82,j 4,r 225,j 85,j 4,r 232]::KC 211 463 "If" "If" 74::RR 211 208 bQ::FF 218 474 481 19 1 nI "If.__init__" bQ 77 4 3 ["self","test","yes","no"] (F1 484 ["self"] []))))
def c7(P:Params):List Obj:=F2 225 484 488 19 2 "parts" "If.parts" bQ 82 1 3 (FF 232 491 496 19 3 "with_parts" "If.with_parts" bQ 85 2 3 ["self","parts"] (oT [s "no" 499,s "test" 500,s "yes" 501]::oD P 2 [(nM,468,bQ),(nL,472,i 74 471),("kind",473,i 6 208),(nI,483,r 219),("parts",490,r 226),("with_parts",498,r 233),(nS,502,r 234),(nD,503,vn)]::YY (some (r 206)) 461 469 "If" "object.__new__" vt [r 45] [r 236,r 45,y "object"] 235 true []::SS 236 (NN [r 45] (oD P 10 [(nM,513,bQ),(nQ,515,s "Lambda" 514),(nL,517,i 87 516),("kind",518,i 7 210),(nI,529,r 252),("parts",536,r 259),("with_parts",544,r 266),("binders",551,r 273),("takes",559,r 280),(nS,564,r 281)]::oT []::oF [j 90,j 4,r 251,j 96,j 4,r 258,j 99,j 4,r 265,j 102,j 4,r 272,j 105,j 4,r 279]::KC 244 508 "Lambda" "Lambda" 87::RR 244 241 bQ::FF 251 519 527 20 1 nI "Lambda.__init__" bQ 90 5 3 ["self","label","params","rest","body"] (oT []::oF []::oT [s "self" 533]::[])))))
def c8(P:Params):List Obj:=oT []::F2 258 530 534 20 2 "parts" "Lambda.parts" bQ 96 1 3 (FF 265 537 542 20 3 "with_parts" "Lambda.with_parts" bQ 99 2 3 ["self","parts"] (FF 272 545 549 20 4 "binders" "Lambda.binders" bQ 102 1 3 ["self"] (FF 279 552 557 20 5 "takes" "Lambda.takes" bQ 105 2 3 ["self","many"] (oT [s "body" 560,s "label" 561,s "params" 562,s "rest" 563]::oD P 2 [(nM,513,bQ),(nL,517,i 87 516),("kind",518,i 7 210),(nI,529,r 252),("parts",536,r 259),("with_parts",544,r 266),("binders",551,r 273),("takes",559,r 280),(nS,564,r 281),(nD,565,vn)]::YY (some (r 239)) 506 514 "Lambda" "object.__new__" vt [r 45] [r 283,r 45,y "object"] 282 true []::SS 283 (NN [r 45] [])))))
def c9(P:Params):List Obj:=oD P 8 [(nM,575,bQ),(nQ,577,s "Call" 576),(nL,579,i 107 578),("kind",580,i 8 212),(nI,589,r 299),("parts",596,r 306),("with_parts",604,r 313),(nS,607,r 314)]::oT []::oF [j 110,j 4,r 298,j 114,j 4,r 305,j 117,j 4,r 312]::KC 291 570 "Call" "Call" 107::RR 291 288 bQ::FF 298 581 587 21 1 nI "Call.__init__" bQ 110 3 3 ["self","operator","operands"] (FF 305 590 594 21 2 "parts" "Call.parts" bQ 114 1 3 ["self"] (FF 312 597 602 21 3 "with_parts" "Call.with_parts" bQ 117 2 3 ["self","parts"] (oT [s "operands" 605,s "operator" 606]::oD P 2 [(nM,575,bQ),(nL,579,i 107 578),("kind",580,i 8 212),(nI,589,r 299),("parts",596,r 306),("with_parts",604,r 313),(nS,607,r 314),(nD,608,vn)]::YY (some (r 286)) 568 576 "Call" "object.__new__" vt [r 45] [r 316,r 45,y "object"] 315 true []::SS 316 (oT [r 45]::[]))))
def AZ(P:Params):List Obj:=oM [u "type.__prepare__",y "type"]::oD P 8 [(nM,618,bQ),(nQ,620,s "Seq" 619),(nL,622,i 119 621),("kind",623,i 9 214),(nI,631,r 332),("parts",638,r 339),("with_parts",646,r 346),(nS,648,r 347)]::oT []::oF [j 122,j 4,r 331,j 125,j 4,r 338,j 128,j 4,r 345]::KC 324 613 "Seq" "Seq" 119::RR 324 321 bQ::FF 331 624 629 22 1 nI "Seq.__init__" bQ 122 2 3 ["self","items"] (FF 338 632 636 22 2 "parts" "Seq.parts" bQ 125 1 3 ["self"] (FF 345 639 644 22 3 "with_parts" "Seq.with_parts" bQ 128 2 3 ["self","parts"] (oT [s "items" 647]::oD P 2 [(nM,618,bQ),(nL,622,i 119 621),("kind",623,i 9 214),(nI,631,r 332),("parts",638,r 339),("with_parts",646,r 346),(nS,648,r 347),(nD,649,vn)]::YY (some (r 319)) 611 619 "Seq" "object.__new__" vt [r 45] [r 349,r 45,y "object"] 348 true []::SS 349 [])))
def A0(P:Params):List Obj:=NN [] (oD P 5 [(nM,661,cq),(nQ,663,s "Special" 662),(nL,665,i 131 664),(nI,673,r 365),(nS,675,r 366)]::oT []::oF [j 133,j 4,r 364]::KC 357 656 "Special" "Special" 131::RR 357 354 cq::FF 364 666 671 24 0 nI "Special.__init__" cq 133 2 3 ["self","title"] (oT [s "title" 674]::oD P 4 [(nM,661,cq),(nL,665,i 131 664),(nI,673,r 365),(nS,675,r 366),("__dict__",677,r 369),("__weakref__",679,r 370),(nD,680,vn)]::YY none 654 662 "Special" "object.__new__" vt [y "object"] [r 368,y "object"] 367 true []::oG [s "__dict__" 676,r 368,u "function.__dict__",u "function.__dict__#set"]::oG [s "__weakref__" 678,r 368,u "ExceptionGroup.__weakref__",vn]::SS 368 (oD P 1 [("title",688,s "empty" 684)]::oI 368 (some 373)::oL P 2 [("self",685,r 374),("title",686,s "empty" 684)]::oD P 1 [("title",694,s "unspecified" 690)]::oI 368 (some 376)::oL P 2 [("self",691,r 377),("title",692,s "unspecified" 690)]::oD P 1 [("title",700,s "unassigned" 696)]::oI 368 (some 379)::oL P 2 [("self",697,r 380),("title",698,s "unassigned" 696)]::NN [] [])))
def A1(P:Params):List Obj:=oD P 5 [(nM,709,cq),(nQ,711,s "Symbol" 710),(nL,713,i 139 712),(nI,722,r 395),(nS,725,r 396)]::oT []::oF [j 141,j 4,r 394]::KC 387 704 "Symbol" "Symbol" 139::RR 387 384 cq::FF 394 714 720 29 0 nI "Symbol.__init__" cq 141 3 3 ["self","number","text"] (oT [s "number" 723,s "text" 724]::oD P 4 [(nM,709,cq),(nL,713,i 139 712),(nI,722,r 395),(nS,725,r 396),("__dict__",727,r 399),("__weakref__",729,r 400),(nD,730,vn)]::YY none 702 710 "Symbol" "object.__new__" vt [y "object"] [r 398,y "object"] 397 true []::oG [s "__dict__" 726,r 398,u "function.__dict__",u "function.__dict__#set"]::oG [s "__weakref__" 728,r 398,u "ExceptionGroup.__weakref__",vn]::SS 398 (NN [] (oD P 11 [(nM,740,cq),(nQ,742,s "SymbolTable" 741),(nL,744,i 144 743),(nI,751,r 416),("symbol",760,r 423),("fresh",769,r 430),("by_number",777,r 437),("find",785,r 444),("is_interned",793,r 451),("size",800,r 458),(nS,803,r 459)]::oT []::oF [j 146,j 4,r 415,j 150,j 4,r 422,j 158,j 4,r 429,j 163,j 4,r 436,j 166,j 4,r 443,j 169,j 4,r 450,j 172,j 4,r 457]::KC 408 735 "SymbolTable" "SymbolTable" 144::RR 408 405 cq::F1 745 ["self"] (h 30 0 nI "SymbolTable.__init__"::KF 415 745 749 nI "SymbolTable.__init__" 146 1 3 (r 412) (r 413)::[]))))
def A2(P:Params):List Obj:=w 30 0 nI "SymbolTable.__init__" vn cq (r 415)::FF 422 752 758 30 1 "symbol" "SymbolTable.symbol" cq 150 2 3 ["self","text","found"] (FF 429 761 767 30 2 "fresh" "SymbolTable.fresh" cq 158 2 3 ["self","hint","found"] (FF 436 770 775 30 3 "by_number" "SymbolTable.by_number" cq 163 2 3 ["self","number"] (FF 443 778 783 30 4 "find" "SymbolTable.find" cq 166 2 3 ["self","text"] (oT []::oF []::oT [s "self" 789,s "symbol" 790]::[]))))
def A3(P:Params):List Obj:=oT []::F2 450 786 791 30 5 "is_interned" "SymbolTable.is_interned" cq 169 2 3 (FF 457 794 798 30 6 "size" "SymbolTable.size" cq 172 1 3 ["self"] (oT [s "by_text" 801,s "rows" 802]::oD P 4 [(nM,740,cq),(nL,744,i 144 743),(nI,751,r 416),("symbol",760,r 423),("fresh",769,r 430),("by_number",777,r 437),("find",785,r 444),("is_interned",793,r 451),("size",800,r 458),(nS,803,r 459),("__dict__",805,r 462),("__weakref__",807,r 463),(nD,808,vn)]::YY none 733 741 "SymbolTable" "object.__new__" vt [y "object"] [r 461,y "object"] 460 true []::oG [s "__dict__" 804,r 461,u "function.__dict__",u "function.__dict__#set"]::oG [s "__weakref__" 806,r 461,u "ExceptionGroup.__weakref__",vn]::SS 461 (NN [] (oD P 5 [(nM,818,cq),(nQ,820,s "Pair" 819),(nL,822,i 174 821),(nI,831,r 479),(nS,835,r 480)]::oT []::oF [j 176,j 4,r 478]::KC 471 813 "Pair" "Pair" 174::RR 471 468 cq::FF 478 823 829 31 0 nI "Pair.__init__" cq 176 3 3 ["self","car","cdr"] []))))
def A4(P:Params):List Obj:=oT [s "car" 832,s "cdr" 833,s "mark" 834]::oD P 4 [(nM,818,cq),(nL,822,i 174 821),(nI,831,r 479),(nS,835,r 480),("__dict__",837,r 483),("__weakref__",839,r 484),(nD,840,vn)]::YY none 811 819 "Pair" "object.__new__" vt [y "object"] [r 482,y "object"] 481 true []::oG [s "__dict__" 836,r 482,u "function.__dict__",u "function.__dict__#set"]::oG [s "__weakref__" 838,r 482,u "ExceptionGroup.__weakref__",vn]::SS 482 (NN [] (oD P 5 [(nM,850,cq),(nQ,852,s "Char" 851),(nL,854,i 180 853),(nI,862,r 500),(nS,864,r 501)]::oT []::oF [j 182,j 4,r 499]::KC 492 845 "Char" "Char" 180::RR 492 489 cq::FF 499 855 860 32 0 nI "Char.__init__" cq 182 2 3 ["self","code"] (oT [s "code" 863]::oD P 4 [(nM,850,cq),(nL,854,i 180 853),(nI,862,r 500),(nS,864,r 501),("__dict__",866,r 504),("__weakref__",868,r 505),(nD,869,vn)]::YY none 843 851 "Char" "object.__new__" vt [y "object"] [r 503,y "object"] 502 true []::oG [s "__dict__" 865,r 503,u "function.__dict__",u "function.__dict__#set"]::oG [s "__weakref__" 867,r 503,u "ExceptionGroup.__weakref__",vn]::SS 503 (NN [] (oD P 5 [(nM,879,cq),(nQ,881,s "Text" 880),(nL,883,i 184 882),(nI,891,r 521),(nS,894,r 522)]::oT []::[])))))
def A5(P:Params):List Obj:=oF [j 186,j 4,r 520]::KC 513 874 "Text" "Text" 184::RR 513 510 cq::FF 520 884 889 33 0 nI "Text.__init__" cq 186 2 3 ["self","codes"] (oT [s "codes" 892,s "mark" 893]::oD P 4 [(nM,879,cq),(nL,883,i 184 882),(nI,891,r 521),(nS,894,r 522),("__dict__",896,r 525),("__weakref__",898,r 526),(nD,899,vn)]::YY none 872 880 "Text" "object.__new__" vt [y "object"] [r 524,y "object"] 523 true []::oG [s "__dict__" 895,r 524,u "function.__dict__",u "function.__dict__#set"]::oG [s "__weakref__" 897,r 524,u "ExceptionGroup.__weakref__",vn]::SS 524 (NN [] (oD P 5 [(nM,909,cq),(nQ,911,s "Vector" 910),(nL,913,i 189 912),(nI,921,r 542),(nS,924,r 543)]::oT []::oF [j 191,j 4,r 541]::KC 534 904 "Vector" "Vector" 189::RR 534 531 cq::FF 541 914 919 34 0 nI "Vector.__init__" cq 191 2 3 ["self","things"] (oT [s "mark" 922,s "things" 923]::[]))))
def A6(P:Params):List Obj:=oD P 4 [(nM,909,cq),(nL,913,i 189 912),(nI,921,r 542),(nS,924,r 543),("__dict__",926,r 546),("__weakref__",928,r 547),(nD,929,vn)]::YY none 902 910 "Vector" "object.__new__" vt [y "object"] [r 545,y "object"] 544 true []::oG [s "__dict__" 925,r 545,u "function.__dict__",u "function.__dict__#set"]::oG [s "__weakref__" 927,r 545,u "ExceptionGroup.__weakref__",vn]::SS 545 (oT [r 374]::oT []::oF []::oT [s "things" 935,s "tail" 936,s "found" 937,s "place" 938]::oT []::h 35 0 "list_of" "list_of"::KF 556 932 939 "list_of" "list_of" 194 2 3 (r 553) (r 554)::w 35 0 "list_of" "list_of" (r 550) cq (r 556)::FF 563 942 949 36 0 "split_list" "split_list" cq 199 1 3 ["datum","things","at","slow"] (FF 570 952 956 37 0 "is_whole" "is_whole" cq 211 1 3 ["datum"] (NN [y "Exception"] (oD P 5 [(nM,968,fV),(nQ,970,s "SchemeError" 969),(nL,972,i 214 971),(nI,981,r 585),(nS,984,r 586)]::oT []::[]))))
def A7(P:Params):List Obj:=oF [j 216,j 4,r 584]::KC 577 963 "SchemeError" "SchemeError" 214::RR 577 574 fV::FF 584 973 979 39 0 nI "SchemeError.__init__" fV 216 3 3 ["self","word","irritants"] (oT [s "irritants" 982,s "word" 983]::oD P 3 [(nM,968,fV),(nL,972,i 214 971),(nI,981,r 585),(nS,984,r 586),("__weakref__",986,r 589),(nD,987,vn)]::YY (some (r 572)) 961 969 "SchemeError" "Exception.__new__" vt [y "Exception"] [r 588,y "Exception",y "BaseException",y "object"] 587 true [r 608]::oG [s "__weakref__" 985,r 588,u "ExceptionGroup.__weakref__",vn]::SS 588 (NN [r 588] (oD P 5 [(nM,999,fV),(nQ,1001,s "SyntaxTrouble" 1000),(nL,1003,i 219 1002),(nI,1012,r 605),(nS,1015,r 606)]::oT []::oF [j 221,j 4,r 604]::KC 597 994 "SyntaxTrouble" "SyntaxTrouble" 219::RR 597 594 fV::FF 604 1004 1010 40 0 nI "SyntaxTrouble.__init__" fV 221 3 3 ["self","reason","datum"] (oT [s "datum" 1013,s "reason" 1014]::oD P 2 [(nM,999,fV),(nL,1003,i 219 1002),(nI,1012,r 605),(nS,1015,r 606),(nD,1016,vn)]::[]))))
def A8(P:Params):List Obj:=YY (some (r 592)) 992 1000 "SyntaxTrouble" "Exception.__new__" vt [r 588] [r 608,r 588,y "Exception",y "BaseException",y "object"] 607 true []::SS 608 (NN [y "Exception"] (oD P 5 [(nM,1026,fV),(nQ,1028,s "MachineFault" 1027),(nL,1030,i 225 1029),(nI,1038,r 624),(nS,1040,r 625)]::oT []::oF [j 227,j 4,r 623]::KC 616 1021 "MachineFault" "MachineFault" 225::RR 616 613 fV::FF 623 1031 1036 41 0 nI "MachineFault.__init__" fV 227 2 3 ["self","word"] (oT [s "word" 1039]::oD P 3 [(nM,1026,fV),(nL,1030,i 225 1029),(nI,1038,r 624),(nS,1040,r 625),("__weakref__",1042,r 628),(nD,1043,vn)]::YY (some (r 611)) 1019 1027 "MachineFault" "Exception.__new__" vt [y "Exception"] [r 627,y "Exception",y "BaseException",y "object"] 626 true []::oG [s "__weakref__" 1041,r 627,u "ExceptionGroup.__weakref__",vn]::SS 627 (NN [] (oD P 5 [(nM,1057,m8),(nQ,1059,s "Real" 1058),(nL,1061,i 230 1060),(nI,1070,r 644),(nS,1073,r 645)]::oT []::oF [j 232,j 4,r 643]::KC 636 1052 "Real" "Real" 230::RR 636 633 m8::oT []::oF []::[])))))
def A9(P:Params):List Obj:=oT [s "self" 1065,s "mantissa" 1066,s "exponent" 1067]::oT []::F2 643 1062 1068 43 0 nI "Real.__init__" m8 232 3 3 (oT [s "exponent" 1071,s "mantissa" 1072]::oD P 4 [(nM,1057,m8),(nL,1061,i 230 1060),(nI,1070,r 644),(nS,1073,r 645),("__dict__",1075,r 648),("__weakref__",1077,r 649),(nD,1078,vn)]::YY none 1050 1058 "Real" "object.__new__" vt [y "object"] [r 647,y "object"] 646 true []::oG [s "__dict__" 1074,r 647,u "function.__dict__",u "function.__dict__#set"]::oG [s "__weakref__" 1076,r 647,u "ExceptionGroup.__weakref__",vn]::SS 647 (NN [] (oD P 5 [(nM,1090,m9),(nQ,1092,s "Ratio" 1091),(nL,1094,i 236 1093),(nI,1103,r 665),(nS,1106,r 666)]::oT []::oF [j 238,j 4,r 664]::KC 657 1085 "Ratio" "Ratio" 236::RR 657 654 m9::FF 664 1095 1101 45 0 nI "Ratio.__init__" m9 238 3 3 ["self","top","bottom"] (oT [s "bottom" 1104,s "top" 1105]::oD P 4 [(nM,1090,m9),(nL,1094,i 236 1093),(nI,1103,r 665),(nS,1106,r 666),("__dict__",1108,r 669),("__weakref__",1110,r 670),(nD,1111,vn)]::YY none 1083 1091 "Ratio" "object.__new__" vt [y "object"] [r 668,y "object"] 667 true []::oG [s "__dict__" 1107,r 668,u "function.__dict__",u "function.__dict__#set"]::oG [s "__weakref__" 1109,r 668,u "ExceptionGroup.__weakref__",vn]::oS [r 668,r 668,r 668]::[]))))
def A_(P:Params):List Obj:=oM [u "object.__init_subclass__",r 668]::NN [] (oD P 5 [(nM,1125,cc),(nQ,1127,s "Alias" 1126),(nL,1129,i 243 1128),(nI,1139,r 686),(nS,1145,r 687)]::oT []::oF [j 245,j 4,r 685]::KC 678 1120 "Alias" "Alias" 243::RR 678 675 cc::FF 685 1130 1137 48 0 nI "Alias.__init__" cc 245 4 3 ["self","number","base","scope"] (oT [s "base" 1140,s "depth" 1141,s "number" 1142,s "root" 1143,s "scope" 1144]::oD P 4 [(nM,1125,cc),(nL,1129,i 243 1128),(nI,1139,r 686),(nS,1145,r 687),("__dict__",1147,r 690),("__weakref__",1149,r 691),(nD,1150,vn)]::YY none 1118 1126 "Alias" "object.__new__" vt [y "object"] [r 689,y "object"] 688 true []::oG [s "__dict__" 1146,r 689,u "function.__dict__",u "function.__dict__#set"]::oG [s "__weakref__" 1148,r 689,u "ExceptionGroup.__weakref__",vn]::SS 689 (NN [] (oD P 5 [(nM,1160,cc),(nQ,1162,s "Special" 1161),(nL,1164,i 251 1163),(nI,1172,r 707),(nS,1174,r 708)]::oT []::oF [j 253,j 4,r 706]::KC 699 1155 "Special" "Special" 251::RR 699 696 cc::oT []::oF []::oT [s "self" 1168,s "word" 1169]::[]))))
def Ba(P:Params):List Obj:=oT []::F2 706 1165 1170 49 0 nI "Special.__init__" cc 253 2 3 (oT [s "word" 1173]::oD P 4 [(nM,1160,cc),(nL,1164,i 251 1163),(nI,1172,r 707),(nS,1174,r 708),("__dict__",1176,r 711),("__weakref__",1178,r 712),(nD,1179,vn)]::YY none 1153 1161 "Special" "object.__new__" vt [y "object"] [r 710,y "object"] 709 true []::oG [s "__dict__" 1175,r 710,u "function.__dict__",u "function.__dict__#set"]::oG [s "__weakref__" 1177,r 710,u "ExceptionGroup.__weakref__",vn]::SS 710 (NN [] (oD P 5 [(nM,1190,cc),(nQ,1192,s "LocalName" 1191),(nL,1194,i 256 1193),(nI,1203,r 728),(nS,1206,r 729)]::oT []::oF [j 258,j 4,r 727]::KC 720 1185 "LocalName" "LocalName" 256::RR 720 717 cc::FF 727 1195 1201 51 0 nI "LocalName.__init__" cc 258 3 3 ["self","number","title"] (oT [s "number" 1204,s "title" 1205]::oD P 4 [(nM,1190,cc),(nL,1194,i 256 1193),(nI,1203,r 728),(nS,1206,r 729),("__dict__",1208,r 732),("__weakref__",1210,r 733),(nD,1211,vn)]::YY none 1183 1191 "LocalName" "object.__new__" vt [y "object"] [r 731,y "object"] 730 true []::oG [s "__dict__" 1207,r 731,u "function.__dict__",u "function.__dict__#set"]::oG [s "__weakref__" 1209,r 731,u "ExceptionGroup.__weakref__",vn]::SS 731 []))))
def Bb(P:Params):List Obj:=NN [] (oD P 5 [(nM,1221,cc),(nQ,1223,s "GlobalName" 1222),(nL,1225,i 261 1224),(nI,1233,r 749),(nS,1235,r 750)]::oT []::oF [j 263,j 4,r 748]::KC 741 1216 "GlobalName" "GlobalName" 261::RR 741 738 cc::FF 748 1226 1231 52 0 nI "GlobalName.__init__" cc 263 2 3 ["self","symbol"] (oT [s "symbol" 1234]::oD P 4 [(nM,1221,cc),(nL,1225,i 261 1224),(nI,1233,r 749),(nS,1235,r 750),("__dict__",1237,r 753),("__weakref__",1239,r 754),(nD,1240,vn)]::YY none 1214 1222 "GlobalName" "object.__new__" vt [y "object"] [r 752,y "object"] 751 true []::oG [s "__dict__" 1236,r 752,u "function.__dict__",u "function.__dict__#set"]::oG [s "__weakref__" 1238,r 752,u "ExceptionGroup.__weakref__",vn]::SS 752 (NN [] (oD P 5 [(nM,1250,cc),(nQ,1252,s "Macro" 1251),(nL,1254,i 265 1253),(nI,1264,r 770),(nS,1268,r 771)]::oT []::oF [j 267,j 4,r 769]::KC 762 1245 "Macro" "Macro" 265::RR 762 759 cc::F1 1255 ["self","literals","rules","scope"] []))))
def Be(P:Params):List Obj:=F2 769 1255 1262 53 0 nI "Macro.__init__" cc 267 4 3 (oT [s "literals" 1265,s "rules" 1266,s "scope" 1267]::oD P 4 [(nM,1250,cc),(nL,1254,i 265 1253),(nI,1264,r 770),(nS,1268,r 771),("__dict__",1270,r 774),("__weakref__",1272,r 775),(nD,1273,vn)]::YY none 1243 1251 "Macro" "object.__new__" vt [y "object"] [r 773,y "object"] 772 true []::oG [s "__dict__" 1269,r 773,u "function.__dict__",u "function.__dict__#set"]::oG [s "__weakref__" 1271,r 773,u "ExceptionGroup.__weakref__",vn]::SS 773 (FF 783 1276 1280 54 0 "is_identifier" "is_identifier" cc 271 1 3 ["datum"] (FF 790 1283 1287 55 0 "key_of" "key_of" cc 273 1 3 ["identifier"] (FF 797 1290 1294 56 0 "root_symbol" "root_symbol" cc 277 1 3 ["identifier"] (oT []::[])))))
def Bf(P:Params):List Obj:=oF []::oT [s "datum" 1300,s "text" 1301]::oT []::F2 804 1297 1302 57 0 "is_named" "is_named" cc 279 2 3 (NN [] (oD P 11 [(nM,1312,cc),(nQ,1314,s "Scope" 1313),(nL,1316,i 281 1315),(nI,1324,r 819),("bind",1333,r 826),("own",1341,r 833),("bound",1352,r 840),("find",1363,r 847),("outermost",1371,r 854),("depth",1380,r 861),(nS,1383,r 862)]::oT []::oF [j 283,j 4,r 818,j 287,j 4,r 825,j 290,j 4,r 832,j 293,j 4,r 839,j 303,j 4,r 846,j 315,j 4,r 853,j 321,j 4,r 860]::KC 811 1307 "Scope" "Scope" 281::RR 811 808 cc::FF 818 1317 1322 58 0 nI "Scope.__init__" cc 283 2 3 ["self","parent"] (FF 825 1325 1331 58 1 "bind" "Scope.bind" cc 287 3 3 ["self","identifier","denotation"] (F1 1334 ["self","identifier"] (h 58 2 "own" "Scope.own"::[])))))
def Bg(P:Params):List Obj:=KF 832 1334 1339 "own" "Scope.own" 290 2 3 (r 829) (r 830)::w 58 2 "own" "Scope.own" vn cc (r 832)::FF 839 1342 1350 58 3 "bound" "Scope.bound" cc 293 2 3 ["self","identifier","key","at","found"] (FF 846 1353 1361 58 4 "find" "Scope.find" cc 303 2 3 ["self","identifier","scope","at","found"] (FF 853 1364 1369 58 5 "outermost" "Scope.outermost" cc 315 1 3 ["self","at"] (FF 860 1372 1378 58 6 "depth" "Scope.depth" cc 321 1 3 ["self","many","at"] (oT [s "names" 1381,s "parent" 1382]::oD P 4 [(nM,1312,cc),(nL,1316,i 281 1315),(nI,1324,r 819),("bind",1333,r 826),("own",1341,r 833),("bound",1352,r 840),("find",1363,r 847),("outermost",1371,r 854),("depth",1380,r 861),(nS,1383,r 862),("__dict__",1385,r 865),("__weakref__",1387,r 866),(nD,1388,vn)]::[]))))
def Bh(P:Params):List Obj:=YY none 1305 1313 "Scope" "object.__new__" vt [y "object"] [r 864,y "object"] 863 true []::oG [s "__dict__" 1384,r 864,u "function.__dict__",u "function.__dict__#set"]::oG [s "__weakref__" 1386,r 864,u "ExceptionGroup.__weakref__",vn]::SS 864 (FF 874 1391 1396 59 0 "same_denotation" "same_denotation" cc 328 2 3 ["one","other"] (FF 881 1399 1406 60 0 "same" "same" cc 338 4 3 ["one","scope","other","other_scope"] (FF 888 1409 1416 61 0 "first_twice" "first_twice" cc 340 1 3 ["identifiers","known","identifier","key"] (F1 1419 ["base","scope","world"] (h 62 0 "alias_of" "alias_of"::KF 895 1419 1425 "alias_of" "alias_of" 348 3 3 (r 892) (r 893)::[])))))
def Bi(P:Params):List Obj:=w 62 0 "alias_of" "alias_of" vn cc (r 895)::FF 902 1428 1433 63 0 "strip_one" "strip_one" cc 352 2 3 ["datum","met"] (oT []::oF []::h 64 0 "strip" "strip"::K3 907 1436 "strip" "strip" 364 1 3::w 64 0 "strip" "strip" vn cc (r 907)::oT [i 3 1448,r 374]::NN [] (oD P 5 [(nM,1476,bY),(nQ,1478,s "Rule" 1477),(nL,1480,i 392 1479),(nI,1490,r 923),(nS,1494,r 924)]::oT []::oF [j 394,j 4,r 922]::KC 915 1471 "Rule" "Rule" 392::RR 915 912 bY::FF 922 1481 1488 78 0 nI "Rule.__init__" bY 394 4 3 ["self","pattern","depths","template"] (oT [s "depths" 1491,s "pattern" 1492,s "template" 1493]::oD P 4 [(nM,1476,bY),(nL,1480,i 392 1479),(nI,1490,r 923),(nS,1494,r 924),("__dict__",1496,r 927),("__weakref__",1498,r 928),(nD,1499,vn)]::YY none 1469 1477 "Rule" "object.__new__" vt [y "object"] [r 926,y "object"] 925 true []::oG [s "__dict__" 1495,r 926,u "function.__dict__",u "function.__dict__#set"]::[])))
def Bj(P:Params):List Obj:=oG [s "__weakref__" 1497,r 926,u "ExceptionGroup.__weakref__",vn]::SS 926 (FF 936 1502 1506 79 0 "is_ellipsis" "is_ellipsis" bY 398 1 3 ["datum"] (NN [] (oD P 9 [(nM,1516,bY),(nQ,1518,s "PatternReader" 1517),(nL,1520,i 400 1519),(nI,1528,r 951),("node",1539,r 958),("name",1549,r 965),("parts",1555,r 970),("row",1568,r 977),(nS,1571,r 978)]::oT []::oF [j 402,j 4,r 950,j 406,j 4,r 957,j 416,j 4,r 964,j 427,j 4,r 969,j 437,j 4,r 976]::KC 943 1511 "PatternReader" "PatternReader" 400::RR 943 940 bY::FF 950 1521 1526 80 0 nI "PatternReader.__init__" bY 402 2 3 ["self","literals"] (FF 957 1529 1537 80 1 "node" "PatternReader.node" bY 406 3 3 ["self","datum","depth","nodes","more"] (oT []::[])))))
def Bk(P:Params):List Obj:=oF []::oT [s "self" 1543,s "identifier" 1544,s "depth" 1545,s "key" 1546]::oT []::F2 964 1540 1547 80 2 "name" "PatternReader.name" bY 416 3 3 (oT []::oF []::h 80 3 "parts" "PatternReader.parts"::K3 969 1550 "parts" "PatternReader.parts" 427 4 3::w 80 3 "parts" "PatternReader.parts" vn bY (r 969)::FF 976 1556 1566 80 4 "row" "PatternReader.row" bY 437 3 3 ["self","datum","depth","items","tail","nodes","more"] (oT [s "depths" 1569,s "literals" 1570]::oD P 4 [(nM,1516,bY),(nL,1520,i 400 1519),(nI,1528,r 951),("node",1539,r 958),("name",1549,r 965),("parts",1555,r 970),("row",1568,r 977),(nS,1571,r 978),("__dict__",1573,r 981),("__weakref__",1575,r 982),(nD,1576,vn)]::YY none 1509 1517 "PatternReader" "object.__new__" vt [y "object"] [r 980,y "object"] 979 true []::oG [s "__dict__" 1572,r 980,u "function.__dict__",u "function.__dict__#set"]::oG [s "__weakref__" 1574,r 980,u "ExceptionGroup.__weakref__",vn]::SS 980 (NN [] (oD P 9 [(nM,1586,bY),(nQ,1588,s "TemplateReader" 1587),(nL,1590,i 445 1589),(nI,1598,r 998),("node",1610,r 1005),("name",1620,r 1012),("parts",1636,r 1019),("goes_on",1646,r 1026),(nS,1648,r 1027)]::oT []::oF [j 447,j 4,r 997,j 450,j 4,r 1004,j 463,j 4,r 1011,j 473,j 4,r 1018,j 492,j 4,r 1025]::KC 990 1581 "TemplateReader" "TemplateReader" 445::RR 990 987 bY::[]))))
def Bl(P:Params):List Obj:=FF 997 1591 1596 81 0 nI "TemplateReader.__init__" bY 447 2 3 ["self","depths"] (FF 1004 1599 1608 81 1 "node" "TemplateReader.node" bY 450 3 3 ["self","datum","depth","items","tail","nodes"] (FF 1011 1611 1618 81 2 "name" "TemplateReader.name" bY 463 3 3 ["self","identifier","depth","key"] (FF 1018 1621 1634 81 3 "parts" "TemplateReader.parts" bY 473 4 3 ["self","items","depth","whole","nodes","place","end","many","node","turn"] (F1 1637 ["self","node","depth","key"] []))))
def Bm(P:Params):List Obj:=F2 1025 1637 1644 81 4 "goes_on" "TemplateReader.goes_on" bY 492 3 3 (oT [s "depths" 1647]::oD P 4 [(nM,1586,bY),(nL,1590,i 445 1589),(nI,1598,r 998),("node",1610,r 1005),("name",1620,r 1012),("parts",1636,r 1019),("goes_on",1646,r 1026),(nS,1648,r 1027),("__dict__",1650,r 1030),("__weakref__",1652,r 1031),(nD,1653,vn)]::YY none 1579 1587 "TemplateReader" "object.__new__" vt [y "object"] [r 1029,y "object"] 1028 true []::oG [s "__dict__" 1649,r 1029,u "function.__dict__",u "function.__dict__#set"]::oG [s "__weakref__" 1651,r 1029,u "ExceptionGroup.__weakref__",vn]::SS 1029 (FF 1039 1656 1665 82 0 "names_in" "names_in" bY 497 1 3 ["node","found","waiting","at","later","part"] (FF 1046 1668 1675 83 0 "literal_keys" "literal_keys" bY 513 1 3 ["datum","items","tail","item"] (FF 1053 1678 1690 84 0 "need_flat" "need_flat" bY 521 1 3 ["datum","waiting","many","at","deep","items","tail","item","thing"] (oT []::[])))))
def Bo(P:Params):List Obj:=oF []::oT [s "datum" 1696,s "literals" 1697,s "parts" 1698,s "tail" 1699,s "pattern" 1700,s "reader" 1701,s "node" 1702]::oT []::F2 1060 1693 1703 85 0 "read_rule" "read_rule" bY 538 2 3 (FF 1067 1706 1711 86 0 "is_rules_word" "is_rules_word" bY 549 2 3 ["datum","scope"] (oT []::oF []::h 87 0 "read_rules" "read_rules"::K3 1072 1714 "read_rules" "read_rules" 551 3 3::w 87 0 "read_rules" "read_rules" vn bY (r 1072)::FF 1079 1720 1725 88 0 "same_atom" "same_atom" bY 563 2 3 ["one","other"] (NN [] (oD P 9 [(nM,1735,bY),(nQ,1737,s "Matcher" 1736),(nL,1739,i 579 1738),(nI,1748,r 1094),("fits",1758,r 1101),("fits_parts",1770,r 1108),("fits_more",1782,r 1115),("fits_row",1798,r 1122),(nS,1802,r 1123)]::oT []::oF [j 581,j 4,r 1093,j 586,j 4,r 1100,j 601,j 4,r 1107,j 609,j 4,r 1114,j 622,j 4,r 1121]::KC 1086 1730 "Matcher" "Matcher" 579::RR 1086 1083 bY::[]))))
def Bp(P:Params):List Obj:=FF 1093 1740 1746 89 0 nI "Matcher.__init__" bY 581 3 3 ["self","macro","scope"] (FF 1100 1749 1756 89 1 "fits" "Matcher.fits" bY 586 3 3 ["self","node","datum","word"] (FF 1107 1759 1768 89 2 "fits_parts" "Matcher.fits_parts" bY 601 4 3 ["self","nodes","more","items","node","item"] (FF 1114 1771 1780 89 3 "fits_more" "Matcher.fits_more" bY 609 3 3 ["self","node","items","lists","key","item"] (F1 1783 ["self","node","datum","nodes","more","tail","items","end","at","part"] []))))
def Bq(P:Params):List Obj:=F2 1121 1783 1796 89 4 "fits_row" "Matcher.fits_row" bY 622 3 3 (oT [s "found" 1799,s "macro" 1800,s "scope" 1801]::oD P 4 [(nM,1735,bY),(nL,1739,i 579 1738),(nI,1748,r 1094),("fits",1758,r 1101),("fits_parts",1770,r 1108),("fits_more",1782,r 1115),("fits_row",1798,r 1122),(nS,1802,r 1123),("__dict__",1804,r 1126),("__weakref__",1806,r 1127),(nD,1807,vn)]::YY none 1728 1736 "Matcher" "object.__new__" vt [y "object"] [r 1125,y "object"] 1124 true []::oG [s "__dict__" 1803,r 1125,u "function.__dict__",u "function.__dict__#set"]::oG [s "__weakref__" 1805,r 1125,u "ExceptionGroup.__weakref__",vn]::SS 1125 (FF 1135 1810 1818 90 0 "match" "match" bY 633 4 3 ["rule","macro","form","scope","matcher"] (NN [] (oD P 9 [(nM,1828,bY),(nQ,1830,s "Writer" 1829),(nL,1832,i 638 1831),(nI,1841,r 1150),("alias",1850,r 1157),("datum",1860,r 1164),("parts",1871,r 1171),("many",1887,r 1178),(nS,1892,r 1179)]::oT []::oF [j 640,j 4,r 1149,j 646,j 4,r 1156,j 652,j 4,r 1163,j 667,j 4,r 1170,j 676,j 4,r 1177]::KC 1142 1823 "Writer" "Writer" 638::RR 1142 1139 bY::FF 1149 1833 1839 91 0 nI "Writer.__init__" bY 640 3 3 ["self","macro","world"] (oT []::[])))))
def Br(P:Params):List Obj:=oF []::oT [s "self" 1845,s "identifier" 1846,s "key" 1847]::oT []::F2 1156 1842 1848 91 1 "alias" "Writer.alias" bY 646 2 3 (FF 1163 1851 1858 91 2 "datum" "Writer.datum" bY 652 3 3 ["self","node","found","word"] (FF 1170 1861 1869 91 3 "parts" "Writer.parts" bY 667 3 3 ["self","nodes","found","items","node"] (FF 1177 1872 1885 91 4 "many" "Writer.many" bY 676 3 3 ["self","node","found","inner","keys","size","key","items","turn","now"] (oT [s "aliases" 1888,s "macro" 1889,s "world" 1890,s "written" 1891]::oD P 4 [(nM,1828,bY),(nL,1832,i 638 1831),(nI,1841,r 1150),("alias",1850,r 1157),("datum",1860,r 1164),("parts",1871,r 1171),("many",1887,r 1178),(nS,1892,r 1179),("__dict__",1894,r 1182),("__weakref__",1896,r 1183),(nD,1897,vn)]::YY none 1821 1829 "Writer" "object.__new__" vt [y "object"] [r 1181,y "object"] 1180 true []::oG [s "__dict__" 1893,r 1181,u "function.__dict__",u "function.__dict__#set"]::oG [s "__weakref__" 1895,r 1181,u "ExceptionGroup.__weakref__",vn]::[]))))
def Bu(P:Params):List Obj:=SS 1181 (FF 1191 1900 1907 92 0 "going_on" "going_on" bY 693 2 3 ["node","found","keys","key"] (FF 1198 1910 1918 93 0 "first_fitting" "first_fitting" bY 699 3 3 ["macro","form","scope","rule","found"] (FF 1205 1921 1931 94 0 "transcribed" "transcribed" bY 705 4 3 ["macro","form","scope","world","rule","found","writer"] (FF 1212 1952 1961 104 0 "parts_of" "parts_of" dc 720 3 3 ["form","least","most","things","tail","many"] (oT []::oF []::[])))))
def Bv(P:Params):List Obj:=oT [s "parts" 1967]::oT []::F2 1219 1964 1968 105 0 "seq_of" "seq_of" dc 726 1 3 (FF 1226 1971 1975 106 0 "is_steady" "is_steady" dc 728 1 3 ["node"] (oT []::oF []::h 107 0 "kept_values" "kept_values"::K3 1231 1978 "kept_values" "kept_values" 730 4 3::w 107 0 "kept_values" "kept_values" vn dc (r 1231)::oT []::oF []::h 108 0 "letrec_of" "letrec_of"::K3 1236 1984 "letrec_of" "letrec_of" 739 4 3::w 108 0 "letrec_of" "letrec_of" vn dc (r 1236)::FF 1243 1990 1996 109 0 "made" "made" dc 746 3 3 ["word","extra","parts"] (oT []::oF []::oT [s "identifier" 2002,s "scope" 2003,s "meaning" 2004]::[])))
def Bw(P:Params):List Obj:=oT []::F2 1250 1999 2005 110 0 "reference" "reference" dc 762 2 3 (FF 1257 2008 2013 111 0 "need_identifier" "need_identifier" dc 769 2 3 ["thing","form"] (FF 1264 2016 2027 112 0 "formals_of" "formals_of" dc 772 2 3 ["formals","form","names","tail","rest","every","name","twice"] (FF 1271 2030 2037 113 0 "bound_local" "bound_local" dc 789 3 3 ["identifier","scope","world","number"] (FF 1278 2040 2047 114 0 "do_quote" "do_quote" dc 793 4 3 ["walk","form","scope","title"] []))))
def By(P:Params):List Obj:=FF 1285 2050 2058 115 0 "do_if" "do_if" dc 795 4 3 ["walk","form","scope","title","parts"] (FF 1292 2061 2069 116 0 "do_lambda" "do_lambda" dc 801 4 3 ["walk","form","scope","title","parts"] (oT []::oF []::h 117 0 "leave_procedure" "leave_procedure"::K3 1297 2072 "leave_procedure" "leave_procedure" 804 6 3::w 117 0 "leave_procedure" "leave_procedure" vn dc (r 1297)::FF 1304 2078 2087 118 0 "do_set" "do_set" dc 813 4 3 ["walk","form","scope","title","parts","meaning"] (F1 2090 ["walk","form","scope","title"] (h 119 0 "do_begin" "do_begin"::KF 1311 2090 2097 "do_begin" "do_begin" 824 4 3 (r 1308) (r 1309)::[]))))
def Bz(P:Params):List Obj:=w 119 0 "do_begin" "do_begin" vn dc (r 1311)::FF 1318 2100 2109 120 0 "leave_sequence" "leave_sequence" dc 826 4 3 ["walk","parts","scope","title","last","place"] (FF 1325 2112 2119 121 0 "do_misplaced" "do_misplaced" dc 831 4 3 ["walk","form","scope","title"] (FF 1332 2122 2129 122 0 "syntax_binding" "syntax_binding" dc 833 2 3 ["binding","form","things","tail"] (FF 1339 2132 2146 123 0 "bind_keywords" "bind_keywords" dc 839 5 3 ["bindings","form","inner","outer","world","things","tail","seen","binding","name","rules"] (oT []::oF []::oT [s "walk" 2152,s "form" 2153,s "scope" 2154,s "title" 2155,s "parts" 2156,s "inner" 2157]::[]))))
def BA(P:Params):List Obj:=oT []::F2 1346 2149 2158 124 0 "do_let_syntax" "do_let_syntax" dc 850 4 3 (FF 1353 2161 2170 125 0 "do_letrec_syntax" "do_letrec_syntax" dc 855 4 3 ["walk","form","scope","title","parts","inner"] (NN [] (oD P 5 [(nM,2180,dc),(nQ,2182,s "Definition" 2181),(nL,2184,i 860 2183),(nI,2196,r 1368),(nS,2203,r 1369)]::oT []::oF [j 862,j 4,r 1367]::KC 1360 2175 "Definition" "Definition" 860::RR 1360 1357 dc::FF 1367 2185 2194 126 0 nI "Definition.__init__" dc 862 6 3 ["self","name","value","formals","body","form"] (oT [s "body" 2197,s "form" 2198,s "formals" 2199,s "is_procedure" 2200,s "name" 2201,s "value" 2202]::oD P 4 [(nM,2180,dc),(nL,2184,i 860 2183),(nI,2196,r 1368),(nS,2203,r 1369),("__dict__",2205,r 1372),("__weakref__",2207,r 1373),(nD,2208,vn)]::YY none 2173 2181 "Definition" "object.__new__" vt [y "object"] [r 1371,y "object"] 1370 true []::oG [s "__dict__" 2204,r 1371,u "function.__dict__",u "function.__dict__#set"]::oG [s "__weakref__" 2206,r 1371,u "ExceptionGroup.__weakref__",vn]::SS 1371 []))))
def BB(P:Params):List Obj:=FF 1381 2211 2217 127 0 "definition_of" "definition_of" dc 869 1 3 ["form","parts","target"] (FF 1388 2220 2227 128 0 "leave_value" "leave_value" dc 879 3 3 ["walk","definition","scope","title"] (oD P 9 [("quote",2230,r 1279),("if",2231,r 1286),("lambda",2232,r 1293),("set!",2233,r 1305),("begin",2234,r 1312),("define",2235,r 1326),("define-syntax",2236,r 1326),("let-syntax",2237,r 1347),("letrec-syntax",2238,r 1354)]::NN [] (oD P 17 [(nM,2264,eh),(nQ,2266,s "Template" 2265),(nL,2268,i 890 2267),(nI,2277,r 1404),("word",2285,r 1411),("marks",2294,r 1418),("mark",2303,r 1425),("quoted",2311,r 1432),("consed",2320,r 1439),("told",2330,r 1446),("marked",2342,r 1453),("vector",2354,r 1460),("spots_of",2364,r 1467),("spots",2374,r 1474),("row",2387,r 1481),("chained",2403,r 1488),(nS,2406,r 1489)]::oT []::oF [j 892,j 4,r 1403,j 896,j 4,r 1410,j 899,j 4,r 1417,j 906,j 4,r 1424,j 912,j 4,r 1431,j 915,j 4,r 1438,j 918,j 4,r 1445,j 928,j 4,r 1452,j 938,j 4,r 1459,j 945,j 4,r 1466,j 953,j 4,r 1473,j 961,j 4,r 1480,j 966,j 4,r 1487]::KC 1396 2259 "Template" "Template" 890::RR 1396 1393 eh::FF 1403 2269 2275 134 0 nI "Template.__init__" eh 892 3 3 ["self","scope","world"] (oT []::oF []::oT [s "self" 2281,s "text" 2282]::[]))))
def BC(P:Params):List Obj:=oT []::F2 1410 2278 2283 134 1 "word" "Template.word" eh 896 2 3 (FF 1417 2286 2292 134 2 "marks" "Template.marks" eh 899 3 3 ["self","datum","text"] (FF 1424 2295 2301 134 3 "mark" "Template.mark" eh 906 2 3 ["self","datum","text"] (FF 1431 2304 2309 134 4 "quoted" "Template.quoted" eh 912 2 3 ["self","datum"] (FF 1438 2312 2318 134 5 "consed" "Template.consed" eh 915 3 3 ["self","one","other"] []))))
def BD(P:Params):List Obj:=FF 1445 2321 2328 134 6 "told" "Template.told" eh 918 3 3 ["self","template","level","text"] (FF 1452 2331 2340 134 7 "marked" "Template.marked" eh 928 4 3 ["self","template","text","level","inner","is_whole"] (FF 1459 2343 2352 134 8 "vector" "Template.vector" eh 938 3 3 ["self","template","level","spots","found","is_whole"] (FF 1466 2355 2362 134 9 "spots_of" "Template.spots_of" eh 945 2 3 ["self","things","found","at"] (F1 2365 ["self","template","found","at"] []))))
def BE(P:Params):List Obj:=F2 1473 2365 2372 134 10 "spots" "Template.spots" eh 953 2 3 (FF 1480 2375 2385 134 11 "row" "Template.row" eh 961 3 3 ["self","template","level","spots","tail","found","is_whole"] (FF 1487 2388 2401 134 12 "chained" "Template.chained" eh 966 5 3 ["self","spots","tail","is_tail_whole","level","found","is_whole","spot","own","is_own_whole"] (oT [s "scope" 2404,s "world" 2405]::oD P 4 [(nM,2264,eh),(nL,2268,i 890 2267),(nI,2277,r 1404),("word",2285,r 1411),("marks",2294,r 1418),("mark",2303,r 1425),("quoted",2311,r 1432),("consed",2320,r 1439),("told",2330,r 1446),("marked",2342,r 1453),("vector",2354,r 1460),("spots_of",2364,r 1467),("spots",2374,r 1474),("row",2387,r 1481),("chained",2403,r 1488),(nS,2406,r 1489),("__dict__",2408,r 1492),("__weakref__",2410,r 1493),(nD,2411,vn)]::YY none 2257 2265 "Template" "object.__new__" vt [y "object"] [r 1491,y "object"] 1490 true []::oG [s "__dict__" 2407,r 1491,u "function.__dict__",u "function.__dict__#set"]::oG [s "__weakref__" 2409,r 1491,u "ExceptionGroup.__weakref__",vn]::SS 1491 (FF 1501 2414 2420 135 0 "quasi" "quasi" eh 978 3 3 ["template","scope","world"] (oT []::[])))))
def BF(P:Params):List Obj:=oF []::oT [s "world" 2428,s "text" 2429]::oT []::F2 1508 2425 2430 137 0 "word_of" "word_of" dK 981 2 3 (FF 1515 2433 2440 138 0 "things_of" "things_of" dK 983 2 3 ["form","least","things","tail"] (FF 1522 2443 2450 139 0 "inner_list" "inner_list" dK 988 2 3 ["datum","form","things","tail"] (FF 1529 2453 2460 140 0 "is_word" "is_word" dK 993 4 3 ["thing","text","scope","world"] (F1 2463 ["datum","form","names","parts","binding","things"] (h 141 0 "bindings_of" "bindings_of"::[])))))
def BG(P:Params):List Obj:=KF 1536 2463 2472 "bindings_of" "bindings_of" 995 2 3 (r 1533) (r 1534)::w 141 0 "bindings_of" "bindings_of" vn dK (r 1536)::FF 1543 2475 2480 142 0 "sequence" "sequence" dK 1005 2 3 ["world","parts"] (FF 1550 2483 2490 143 0 "choice" "choice" dK 1007 4 3 ["world","test","yes","no"] (FF 1557 2493 2499 144 0 "procedure" "procedure" dK 1009 3 3 ["world","formals","body"] (FF 1564 2502 2509 145 0 "kept" "kept" dK 1011 4 3 ["world","name","part","body"] (oT []::oF []::[]))))
def BH(P:Params):List Obj:=oT [s "form" 2515,s "scope" 2516,s "world" 2517,s "parts" 2518,s "found" 2519,s "part" 2520]::oT []::F2 1571 2512 2521 146 0 "do_and" "do_and" dK 1013 3 3 (FF 1578 2524 2534 147 0 "do_or" "do_or" dK 1021 3 3 ["form","scope","world","parts","found","part","name"] (FF 1585 2537 2548 148 0 "do_let" "do_let" dK 1030 3 3 ["form","scope","world","parts","names","given","own","knot"] (FF 1592 2551 2563 149 0 "do_let_star" "do_let_star" dK 1041 3 3 ["form","scope","world","parts","names","given","last","found","place"] (oT []::oF []::h 150 0 "do_letrec" "do_letrec"::K3 1597 2566 "do_letrec" "do_letrec" 1051 3 3::w 150 0 "do_letrec" "do_letrec" vn dK (r 1597)::oT []::[]))))
def BI(P:Params):List Obj:=oF []::oT [s "clause" 2575,s "rest" 2576,s "form" 2577,s "scope" 2578,s "world" 2579,s "things" 2580,s "name" 2581,s "behind" 2582]::oT []::F2 1604 2572 2583 151 0 "cond_clause" "cond_clause" dK 1059 5 3 (FF 1611 2586 2596 152 0 "do_cond" "do_cond" dK 1075 3 3 ["form","scope","world","clauses","found","place","things"] (FF 1618 2599 2606 153 0 "case_test" "case_test" dK 1087 3 3 ["name","datums","world","known"] (FF 1625 2609 2621 154 0 "do_case" "do_case" dK 1090 3 3 ["form","scope","world","parts","clauses","name","found","place","things"] (F1 2624 ["things","form"] (h 155 0 "step_of" "step_of"::[])))))
def BJ(P:Params):List Obj:=KF 1632 2624 2629 "step_of" "step_of" 1107 2 3 (r 1629) (r 1630)::w 155 0 "step_of" "step_of" vn dK (r 1632)::FF 1639 2632 2653 156 0 "do_do" "do_do" dK 1111 3 3 ["form","scope","world","parts","names","given","steps","binding","name","first","step","ending","turn","again","nothing","told","loop","own"] (FF 1646 2656 2663 157 0 "do_delay" "do_delay" dK 1131 3 3 ["form","scope","world","parts"] (FF 1653 2666 2673 158 0 "do_quasiquote" "do_quasiquote" dK 1136 3 3 ["form","scope","world","parts"] (oD P 10 [("and",2676,r 1572),("or",2677,r 1579),("let",2678,r 1586),("let*",2679,r 1593),("letrec",2680,r 1598),("cond",2681,r 1612),("case",2682,r 1626),("do",2683,r 1640),("delay",2684,r 1647),("quasiquote",2685,r 1654)]::oT [s "quote" 2709,s "if" 2710,s "lambda" 2711,s "set!" 2712,s "begin" 2713,s "define" 2714,s "define-syntax" 2715,s "let-syntax" 2716,s "letrec-syntax" 2717,s "and" 2718,s "or" 2719,s "let" 2720,s "let*" 2721,s "letrec" 2722,s "cond" 2723,s "case" 2724,s "do" 2725,s "delay" 2726,s "quasiquote" 2727]::FF 1662 2729 2735 167 0 "root_scope" "root_scope" dA 1149 1 3 ["world","scope","word"] [])))
def BK(P:Params):List Obj:=FF 1669 2738 2742 168 0 "is_plain" "is_plain" dA 1154 1 3 ["datum"] (FF 1676 2745 2751 169 0 "keyword_of" "keyword_of" dA 1156 2 3 ["form","scope","meaning"] (NN [] (oD P 18 [(nM,2761,dA),(nQ,2763,s "Walk" 2762),(nL,2765,i 1161 2764),(nI,2773,r 1691),("expand",2783,r 1698),("body",2793,r 1705),("procedure",2805,r 1712),("make",2815,r 1719),("give",2823,r 1726),("run",2832,r 1733),("do_make",2838,r 1738),("used",2850,r 1745),("opened",2861,r 1752),("do_form",2873,r 1759),("do_call",2885,r 1766),("do_body",2902,r 1773),("leave_body",2908,r 1778),(nS,2914,r 1779)]::oT []::oF [j 1163,j 4,r 1690,j 1170,j 4,r 1697,j 1173,j 4,r 1704,j 1176,j 4,r 1711,j 1179,j 4,r 1718,j 1182,j 4,r 1725,j 1185,j 4,r 1732,j 1201,j 4,r 1737,j 1205,j 4,r 1744,j 1215,j 4,r 1751,j 1224,j 4,r 1758,j 1241,j 4,r 1765,j 1249,j 4,r 1772,j 1272,j 4,r 1777]::KC 1683 2756 "Walk" "Walk" 1161::RR 1683 1680 dA::FF 1690 2766 2771 170 0 nI "Walk.__init__" dA 1163 2 3 ["self","world"] (F1 2774 ["self","form","scope","title"] []))))
def BL(P:Params):List Obj:=F2 1697 2774 2781 170 1 "expand" "Walk.expand" dA 1170 4 3 (FF 1704 2784 2791 170 2 "body" "Walk.body" dA 1173 4 3 ["self","forms","scope","form"] (FF 1711 2794 2803 170 3 "procedure" "Walk.procedure" dA 1176 6 3 ["self","formals","body","form","scope","title"] (FF 1718 2806 2813 170 4 "make" "Walk.make" dA 1179 4 3 ["self","word","extra","many"] (FF 1725 2816 2821 170 5 "give" "Walk.give" dA 1182 2 3 ["self","node"] (oT []::[])))))
def BM(P:Params):List Obj:=oF []::oT [s "self" 2827,s "job" 2828,s "found" 2829]::oT []::F2 1732 2824 2830 170 6 "run" "Walk.run" dA 1185 1 3 (oT []::oF []::h 170 7 "do_make" "Walk.do_make"::K3 1737 2833 "do_make" "Walk.do_make" 1201 4 3::w 170 7 "do_make" "Walk.do_make" vn dA (r 1737)::FF 1744 2839 2848 170 8 "used" "Walk.used" dA 1205 4 3 ["self","macro","form","scope","found","many"] (FF 1751 2851 2859 170 9 "opened" "Walk.opened" dA 1215 3 3 ["self","form","scope","found","meaning"] (FF 1758 2862 2871 170 10 "do_form" "Walk.do_form" dA 1224 4 3 ["self","form","scope","title","found","word"] [])))
def BN(P:Params):List Obj:=FF 1765 2874 2883 170 11 "do_call" "Walk.do_call" dA 1241 3 3 ["self","form","scope","things","tail","place"] (FF 1772 2886 2900 170 12 "do_body" "Walk.do_body" dA 1249 4 3 ["self","forms","scope","form","inner","waiting","found","names","first","word","definition"] (oT []::oF []::h 170 13 "leave_body" "Walk.leave_body"::K3 1777 2903 "leave_body" "Walk.leave_body" 1272 5 3::w 170 13 "leave_body" "Walk.leave_body" vn dA (r 1777)::oT [s "jobs" 2909,s "nodes" 2910,s "uses" 2911,s "world" 2912,s "written" 2913]::oD P 4 [(nM,2761,dA),(nL,2765,i 1161 2764),(nI,2773,r 1691),("expand",2783,r 1698),("body",2793,r 1705),("procedure",2805,r 1712),("make",2815,r 1719),("give",2823,r 1726),("run",2832,r 1733),("do_make",2838,r 1738),("used",2850,r 1745),("opened",2861,r 1752),("do_form",2873,r 1759),("do_call",2885,r 1766),("do_body",2902,r 1773),("leave_body",2908,r 1778),(nS,2914,r 1779),("__dict__",2916,r 1782),("__weakref__",2918,r 1783),(nD,2919,vn)]::YY none 2754 2762 "Walk" "object.__new__" vt [y "object"] [r 1781,y "object"] 1780 true []::oG [s "__dict__" 2915,r 1781,u "function.__dict__",u "function.__dict__#set"]::oG [s "__weakref__" 2917,r 1781,u "ExceptionGroup.__weakref__",vn]::SS 1781 (F1 2922 ["walk","form","world","definition","symbol"] (h 171 0 "defined_at_top" "defined_at_top"::KF 1791 2922 2930 "defined_at_top" "defined_at_top" 1284 3 3 (r 1788) (r 1789)::[]))))
def BO(P:Params):List Obj:=w 171 0 "defined_at_top" "defined_at_top" vn dA (r 1791)::FF 1798 2933 2939 172 0 "bind_at_top" "bind_at_top" dA 1292 2 3 ["form","world","parts"] (FF 1805 2942 2949 173 0 "expand_top" "expand_top" dA 1296 2 3 ["form","world","names","error"] (FF 1812 2952 2962 174 0 "nodes_at_top" "nodes_at_top" dA 1303 2 3 ["form","world","found","waiting","walk","first","word"] (NN [] (oD P 14 [(nM,2974,fz),(nQ,2976,s "Names" 2975),(nL,2978,i 1321 2977),(nI,2985,r 1827),("fresh",2992,r 1834),("symbol",3000,r 1841),("number_of_name",3008,r 1848),("text_of_symbol",3016,r 1855),("set_title",3025,r 1862),("title_of",3033,r 1869),("give_ops",3041,r 1876),("op_at",3049,r 1883),("fold",3058,r 1890),(nS,3064,r 1891)]::oT []::oF [j 1323,j 4,r 1826,j 1330,j 4,r 1833,j 1334,j 4,r 1840,j 1337,j 4,r 1847,j 1340,j 4,r 1854,j 1343,j 4,r 1861,j 1346,j 4,r 1868,j 1349,j 4,r 1875,j 1352,j 4,r 1882,j 1355,j 4,r 1889]::KC 1819 2969 "Names" "Names" 1321::RR 1819 1816 fz::oT []::oF []::oT [s "self" 2982]::[]))))
def BP(P:Params):List Obj:=oT []::F2 1826 2979 2983 176 0 nI "Names.__init__" fz 1323 1 3 (FF 1833 2986 2990 176 1 "fresh" "Names.fresh" fz 1330 1 3 ["self"] (FF 1840 2993 2998 176 2 "symbol" "Names.symbol" fz 1334 2 3 ["self","text"] (FF 1847 3001 3006 176 3 "number_of_name" "Names.number_of_name" fz 1337 2 3 ["self","text"] (FF 1854 3009 3014 176 4 "text_of_symbol" "Names.text_of_symbol" fz 1340 2 3 ["self","number"] []))))
def BQ(P:Params):List Obj:=FF 1861 3017 3023 176 5 "set_title" "Names.set_title" fz 1343 3 3 ["self","label","text"] (FF 1868 3026 3031 176 6 "title_of" "Names.title_of" fz 1346 2 3 ["self","label"] (FF 1875 3034 3039 176 7 "give_ops" "Names.give_ops" fz 1349 2 3 ["self","rows"] (FF 1882 3042 3047 176 8 "op_at" "Names.op_at" fz 1352 2 3 ["self","symbol"] (F1 3050 ["self","op","values"] []))))
def BR(P:Params):List Obj:=F2 1889 3050 3056 176 9 "fold" "Names.fold" fz 1355 3 3 (oT [s "last" 3059,s "ops" 3060,s "root" 3061,s "table" 3062,s "titles" 3063]::oD P 4 [(nM,2974,fz),(nL,2978,i 1321 2977),(nI,2985,r 1827),("fresh",2992,r 1834),("symbol",3000,r 1841),("number_of_name",3008,r 1848),("text_of_symbol",3016,r 1855),("set_title",3025,r 1862),("title_of",3033,r 1869),("give_ops",3041,r 1876),("op_at",3049,r 1883),("fold",3058,r 1890),(nS,3064,r 1891),("__dict__",3066,r 1894),("__weakref__",3068,r 1895),(nD,3069,vn)]::YY none 2967 2975 "Names" "object.__new__" vt [y "object"] [r 1893,y "object"] 1892 true []::oG [s "__dict__" 3065,r 1893,u "function.__dict__",u "function.__dict__#set"]::oG [s "__weakref__" 3067,r 1893,u "ExceptionGroup.__weakref__",vn]::SS 1893 (oT [s "if" 3074,s "lambda" 3075,s "let" 3076,s "own" 3077,s "set!" 3078,s "cond" 3079]::oT []::oF []::h 179 0 "_law_deck" "_law_deck"::K3 1902 3081 "_law_deck" "_law_deck" 1359 1 3::w 179 0 "_law_deck" "_law_deck" vn jl (r 1902)::FF 1909 3087 3093 180 0 "_law_draw" "_law_draw" jl 1361 2 3 ["deck","many","found"] (oT []::oF []::h 181 0 "_law_datum" "_law_datum"::K3 1914 3096 "_law_datum" "_law_datum" 1369 2 3::w 181 0 "_law_datum" "_law_datum" vn jl (r 1914)::F1 3102 ["deck","name","way","fault","value","good","rules"] [])))
def BS(P:Params):List Obj:=F2 1921 3102 3112 182 0 "_law_part" "_law_part" jl 1373 1 3 (oT []::oF []::h 183 0 "_law_meanings" "_law_meanings"::K3 1926 3115 "_law_meanings" "_law_meanings" 1384 1 3::w 183 0 "_law_meanings" "_law_meanings" vn jl (r 1926)::oT []::oF []::h 184 0 "law" "law"::K3 1931 3121 "law" "law" 1391 1 3::w 184 0 "law" "law" vn jl (r 1931)::[])
noncomputable def upd(l:List DictEntry)(x:Nat)(v:Value):List DictEntry:=@List.rec DictEntry (λa=>Nat->List DictEntry) (λa=>[]) (λe t i n=>@Nat.rec (λa=>List DictEntry) (⟨e.hash,e.key,v⟩::t) (λm a=>e::i m) n) l x
noncomputable def uf(l:List DictEntry):List (Nat×Value)->List DictEntry
 |[]=>l
 |d::r=>uf (upd l d.1 d.2) r
abbrev mn(P:Params)(m e:Nat)(d:List (Nat×Value)):Obj:=⟨.type "dict",none,.dict (uf ((ud P).take m) d).toArray e, #[]⟩
abbrev ft(m:Nat):Obj:=oF (ue.take m)
def BU(P:Params):List (List Obj):=[c0 P,c1 P,c2 P,c3 P,c4 P,c5 P,c6 P,c7 P,c8 P,c9 P,AZ P,A0 P,A1 P,A2 P,A3 P,A4 P,A5 P,A6 P,A7 P,A8 P,A9 P,A_ P,Ba P,Bb P,Be P,Bf P,Bg P,Bh P,Bi P,Bj P,Bk P,Bl P,Bm P,Bo P,Bp P,Bq P,Br P,Bu P,Bv P,Bw P,By P,Bz P,BA P,BB P,BC P,BD P,BE P,BF P,BG P,BH P,BI P,BJ P,BK P,BL P,BM P,BN P,BO P,BP P,BQ P,BR P,BS P]
noncomputable def cz(l:List Obj)(x:Nat):Obj:=@List.rec Obj (λa=>Nat->Obj) (λa=>default) (λe a i n=>@Nat.rec (λa=>Obj) e (λm a=>i m) n) l x
noncomputable def BV(l:List (List Obj))(x:Nat):List Obj:=@List.rec (List Obj) (λa=>Nat->List Obj) (λa=>[]) (λe a i n=>@Nat.rec (λa=>List Obj) e (λm a=>i m) n) l x
def ob(P:Params)(a:Nat):Obj:=cz (BV (BU P) (Nat.div a 32)) (Nat.mod a 32)
def look(P:Params)(ps:List (Nat×Obj))(a id:Nat):Obj:=@List.rec (Nat×Obj) (λb=>Obj) (ob P a) (λe b i=>@Bool.rec (λb=>Obj) i e.2 (Nat.beq e.1 a)) ps
def mm(d n:Nat)(P:Params)(ps:List (Nat×Obj)):Nat->Nat->Nat->BT:=@Nat.rec (λa=>Nat->Nat->Nat->BT) (λa c e=>.nil) (λa i s b id=>@Bool.rec (λa=>BT) .nil (.node (look P ps b id) (i (Nat.mul 2 s) (Nat.add s b) id) (i (Nat.mul 2 s) (Nat.add (Nat.mul 2 s) b) id)) (Nat.blt b n)) d
abbrev tr(id n:Nat)(P:Params)(ps:List (Nat×Obj)):BT:=mm 12 n P ps 1 0 id
noncomputable def Z:Env:={scope:=(Program.main PySem.Challenge.pw_pq1046_01).scope,locals:=mainNs,globals:=mainNs,cells:=[],code:=.ref 13,frame:=some 14}
abbrev St(id n t:Nat)(P:Params)(ps:List (Nat×Obj))(o:OsState):SharedT:=⟨tr id n P ps,n,{}, #[],{},t,o⟩
abbrev sl(x m:Nat):List Stmt:=(Bd.drop x).take m
def q0(P:Params):List (Nat×Obj):=[(2,boot_o_2 P),(3,boot_o_3 P),(12,oF [])]
def q1(P:Params):List (Nat×Obj):=[(2,oE P 0 []),(3,mn P 25 25 [(0,s "scheme.core" 194)]),(12,ft 18),(45,YY none 216 224 "Node" "object.__new__" vt [y "object"] [r 45,y "object"] 44 true [r 66,r 85,r 104,r 137])]
def q2(P:Params):List (Nat×Obj):=[(2,oE P 0 []),(3,mn P 29 29 [(0,s "scheme.core" 194)]),(12,ft 30),(45,YY none 216 224 "Node" "object.__new__" vt [y "object"] [r 45,y "object"] 44 true [r 66,r 85,r 104,r 137,r 170,r 203,r 236,r 283])]
def q3(P:Params):List (Nat×Obj):=[(2,oE P 0 []),(3,mn P 37 37 [(0,s "scheme.data" 652),(31,r 368)]),(12,ft 42)]
def q4(P:Params):List (Nat×Obj):=[(2,oE P 0 []),(3,mn P 45 45 [(0,s "scheme.errors" 959),(31,r 368)]),(12,ft 66)]
def q5(P:Params):List (Nat×Obj):=[(3,mn P 52 52 [(0,s "scheme.scopes" 1114),(31,r 368)]),(12,ft 84)]
def q6(P:Params):List (Nat×Obj):=[(3,mn P 62 62 [(0,s "scheme.scopes" 1114)]),(12,ft 114)]
def q7(P:Params):List (Nat×Obj):=[(3,mn P 90 90 [(0,s "scheme.rules" 1442)]),(12,ft 162)]
def q8(P:Params):List (Nat×Obj):=[(3,mn P 121 121 [(0,s "scheme.corerules" 1934)]),(12,ft 231)]
def q9(P:Params):List (Nat×Obj):=[(3,mn P 129 129 [(0,s "scheme.corerules" 1934)]),(12,ft 255)]
def qf(P:Params):List (Nat×Obj):=[(3,mn P 130 130 [(0,s "scheme.corerules" 1934)]),(12,ft 255)]
def qg(P:Params):List (Nat×Obj):=[(3,mn P 157 157 [(0,s "scheme.derived" 2423)]),(12,ft 327)]
def qh(P:Params):List (Nat×Obj):=[(3,mn P 158 158 [(0,s "scheme.derived" 2423)]),(12,ft 327)]
def ug(P:Params):List (Nat×Obj):=[(3,mn P 173 173 [(0,s "scheme.names" 2965)]),(12,ft 354)]
def qi(P:Params):List (Nat×Obj):=[]
end
end Hd
namespace Gr
open PySem PySem.W PyProof.Rows PySem.Calls Mi Sd
noncomputable def uh:List Nat:=[0,1,2,3,4,5,6,44,45,62,63,65,66,100,101,103,104,119,120,136,137,152,153,169,170,185,186,202,203,218,219,235,236,298,299,315,316,331,332,348,349,364,365,367,368,373,374,376,377,379,380,394,395,397,398,415,416,422,423,460,461,478,479,481,482,520,521,523,524,541,542,544,545,550,556,557,563,564,584,585,587,588,604,605,607,608,685,686,688,689,706,707,709,710,727,728,730,731,748,749,751,752,769,770,772,773,783,784,790,791,797,798,804,805,818,819,825,826,839,840,846,847,863,864,888,889,902,903,907,908,909,922,923,925,926,936,937,950,951,957,958,964,965,969,970,976,977,979,980,997,998,1004,1005,1011,1012,1018,1019,1028,1029,1046,1047,1053,1054,1060,1061,1067,1068,1072,1073,1212,1213,1219,1220,1243,1244,1250,1251,1257,1258,1264,1265,1271,1272,1278,1279,1297,1298,1311,1312,1318,1319,1325,1326,1367,1368,1370,1371,1381,1382,1388,1389,1390,1655,1656,1662,1663,1669,1670,1676,1677,1690,1691,1697,1698,1704,1705,1711,1712,1718,1719,1725,1726,1732,1733,1737,1738,1751,1752,1758,1759,1765,1766,1772,1773,1780,1781,1791,1792,1798,1799,1805,1806,1812,1813,1826,1827,1833,1834,1892,1893,1898,1902,1903,1909,1910,1914,1915,1921,1922,1926,1927,1931,1932]
def K2(P:Params):Frag:=uh.map λa=>(a,Hd.ob P a)
noncomputable def gp:List (Nat×Nat×Nat×String×String×Value×Value×Nat):=[(63,13,1,"__init__","Const.__init__",.none,.str (z "scheme.core") 194,62),(101,15,1,"__init__","Global.__init__",.none,.str (z "scheme.core") 194,100),(120,16,1,"__init__","SetLocal.__init__",.none,.str (z "scheme.core") 194,119),(153,17,1,"__init__","SetGlobal.__init__",.none,.str (z "scheme.core") 194,152),(186,18,1,"__init__","Define.__init__",.none,.str (z "scheme.core") 194,185),(219,19,1,"__init__","If.__init__",.none,.str (z "scheme.core") 194,218),(299,21,1,"__init__","Call.__init__",.none,.str (z "scheme.core") 194,298),(332,22,1,"__init__","Seq.__init__",.none,.str (z "scheme.core") 194,331),(365,24,0,"__init__","Special.__init__",.none,.str (z "scheme.data") 652,364),(395,29,0,"__init__","Symbol.__init__",.none,.str (z "scheme.data") 652,394),(416,30,0,"__init__","SymbolTable.__init__",.none,.str (z "scheme.data") 652,415),(423,30,1,"symbol","SymbolTable.symbol",.none,.str (z "scheme.data") 652,422),(479,31,0,"__init__","Pair.__init__",.none,.str (z "scheme.data") 652,478),(521,33,0,"__init__","Text.__init__",.none,.str (z "scheme.data") 652,520),(542,34,0,"__init__","Vector.__init__",.none,.str (z "scheme.data") 652,541),(557,35,0,"list_of","list_of",.ref 550,.str (z "scheme.data") 652,556),(564,36,0,"split_list","split_list",.none,.str (z "scheme.data") 652,563),(585,39,0,"__init__","SchemeError.__init__",.none,.str (z "scheme.errors") 959,584),(605,40,0,"__init__","SyntaxTrouble.__init__",.none,.str (z "scheme.errors") 959,604),(686,48,0,"__init__","Alias.__init__",.none,.str (z "scheme.scopes") 1114,685),(707,49,0,"__init__","Special.__init__",.none,.str (z "scheme.scopes") 1114,706),(728,51,0,"__init__","LocalName.__init__",.none,.str (z "scheme.scopes") 1114,727),(749,52,0,"__init__","GlobalName.__init__",.none,.str (z "scheme.scopes") 1114,748),(770,53,0,"__init__","Macro.__init__",.none,.str (z "scheme.scopes") 1114,769),(784,54,0,"is_identifier","is_identifier",.none,.str (z "scheme.scopes") 1114,783),(791,55,0,"key_of","key_of",.none,.str (z "scheme.scopes") 1114,790),(798,56,0,"root_symbol","root_symbol",.none,.str (z "scheme.scopes") 1114,797),(805,57,0,"is_named","is_named",.none,.str (z "scheme.scopes") 1114,804),(819,58,0,"__init__","Scope.__init__",.none,.str (z "scheme.scopes") 1114,818),(826,58,1,"bind","Scope.bind",.none,.str (z "scheme.scopes") 1114,825),(840,58,3,"bound","Scope.bound",.none,.str (z "scheme.scopes") 1114,839),(847,58,4,"find","Scope.find",.none,.str (z "scheme.scopes") 1114,846),(889,61,0,"first_twice","first_twice",.none,.str (z "scheme.scopes") 1114,888),(903,63,0,"strip_one","strip_one",.none,.str (z "scheme.scopes") 1114,902),(908,64,0,"strip","strip",.none,.str (z "scheme.scopes") 1114,907),(923,78,0,"__init__","Rule.__init__",.none,.str (z "scheme.rules") 1442,922),(937,79,0,"is_ellipsis","is_ellipsis",.none,.str (z "scheme.rules") 1442,936),(951,80,0,"__init__","PatternReader.__init__",.none,.str (z "scheme.rules") 1442,950),(958,80,1,"node","PatternReader.node",.none,.str (z "scheme.rules") 1442,957),(965,80,2,"name","PatternReader.name",.none,.str (z "scheme.rules") 1442,964),(970,80,3,"parts","PatternReader.parts",.none,.str (z "scheme.rules") 1442,969),(977,80,4,"row","PatternReader.row",.none,.str (z "scheme.rules") 1442,976),(998,81,0,"__init__","TemplateReader.__init__",.none,.str (z "scheme.rules") 1442,997),(1005,81,1,"node","TemplateReader.node",.none,.str (z "scheme.rules") 1442,1004),(1012,81,2,"name","TemplateReader.name",.none,.str (z "scheme.rules") 1442,1011),(1019,81,3,"parts","TemplateReader.parts",.none,.str (z "scheme.rules") 1442,1018),(1047,83,0,"literal_keys","literal_keys",.none,.str (z "scheme.rules") 1442,1046),(1054,84,0,"need_flat","need_flat",.none,.str (z "scheme.rules") 1442,1053),(1061,85,0,"read_rule","read_rule",.none,.str (z "scheme.rules") 1442,1060),(1068,86,0,"is_rules_word","is_rules_word",.none,.str (z "scheme.rules") 1442,1067),(1073,87,0,"read_rules","read_rules",.none,.str (z "scheme.rules") 1442,1072),(1213,104,0,"parts_of","parts_of",.none,.str (z "scheme.corerules") 1934,1212),(1220,105,0,"seq_of","seq_of",.none,.str (z "scheme.corerules") 1934,1219),(1244,109,0,"made","made",.none,.str (z "scheme.corerules") 1934,1243),(1251,110,0,"reference","reference",.none,.str (z "scheme.corerules") 1934,1250),(1258,111,0,"need_identifier","need_identifier",.none,.str (z "scheme.corerules") 1934,1257),(1265,112,0,"formals_of","formals_of",.none,.str (z "scheme.corerules") 1934,1264),(1272,113,0,"bound_local","bound_local",.none,.str (z "scheme.corerules") 1934,1271),(1279,114,0,"do_quote","do_quote",.none,.str (z "scheme.corerules") 1934,1278),(1298,117,0,"leave_procedure","leave_procedure",.none,.str (z "scheme.corerules") 1934,1297),(1312,119,0,"do_begin","do_begin",.none,.str (z "scheme.corerules") 1934,1311),(1319,120,0,"leave_sequence","leave_sequence",.none,.str (z "scheme.corerules") 1934,1318),(1326,121,0,"do_misplaced","do_misplaced",.none,.str (z "scheme.corerules") 1934,1325),(1368,126,0,"__init__","Definition.__init__",.none,.str (z "scheme.corerules") 1934,1367),(1382,127,0,"definition_of","definition_of",.none,.str (z "scheme.corerules") 1934,1381),(1389,128,0,"leave_value","leave_value",.none,.str (z "scheme.corerules") 1934,1388),(1663,167,0,"root_scope","root_scope",.none,.str (z "scheme.expand") 2697,1662),(1670,168,0,"is_plain","is_plain",.none,.str (z "scheme.expand") 2697,1669),(1677,169,0,"keyword_of","keyword_of",.none,.str (z "scheme.expand") 2697,1676),(1691,170,0,"__init__","Walk.__init__",.none,.str (z "scheme.expand") 2697,1690),(1698,170,1,"expand","Walk.expand",.none,.str (z "scheme.expand") 2697,1697),(1705,170,2,"body","Walk.body",.none,.str (z "scheme.expand") 2697,1704),(1712,170,3,"procedure","Walk.procedure",.none,.str (z "scheme.expand") 2697,1711),(1719,170,4,"make","Walk.make",.none,.str (z "scheme.expand") 2697,1718),(1726,170,5,"give","Walk.give",.none,.str (z "scheme.expand") 2697,1725),(1733,170,6,"run","Walk.run",.none,.str (z "scheme.expand") 2697,1732),(1738,170,7,"do_make","Walk.do_make",.none,.str (z "scheme.expand") 2697,1737),(1752,170,9,"opened","Walk.opened",.none,.str (z "scheme.expand") 2697,1751),(1759,170,10,"do_form","Walk.do_form",.none,.str (z "scheme.expand") 2697,1758),(1766,170,11,"do_call","Walk.do_call",.none,.str (z "scheme.expand") 2697,1765),(1773,170,12,"do_body","Walk.do_body",.none,.str (z "scheme.expand") 2697,1772),(1792,171,0,"defined_at_top","defined_at_top",.none,.str (z "scheme.expand") 2697,1791),(1799,172,0,"bind_at_top","bind_at_top",.none,.str (z "scheme.expand") 2697,1798),(1806,173,0,"expand_top","expand_top",.none,.str (z "scheme.expand") 2697,1805),(1813,174,0,"nodes_at_top","nodes_at_top",.none,.str (z "scheme.expand") 2697,1812),(1827,176,0,"__init__","Names.__init__",.none,.str (z "scheme.names") 2965,1826),(1834,176,1,"fresh","Names.fresh",.none,.str (z "scheme.names") 2965,1833),(1903,179,0,"_law_deck","_law_deck",.none,.str (z "law_pq1046_01") 3072,1902),(1910,180,0,"_law_draw","_law_draw",.none,.str (z "law_pq1046_01") 3072,1909),(1915,181,0,"_law_datum","_law_datum",.none,.str (z "law_pq1046_01") 3072,1914),(1922,182,0,"_law_part","_law_part",.none,.str (z "law_pq1046_01") 3072,1921),(1927,183,0,"_law_meanings","_law_meanings",.none,.str (z "law_pq1046_01") 3072,1926),(1932,184,0,"law","law",.none,.str (z "law_pq1046_01") 3072,1931)]
noncomputable def m_(K:Frag)(C:Nat)(c:Cl):Bool:=
 (findIn K (.ref C) "__getattribute__" ==some (some (.builtin "object.__getattribute__")))&&((findIn K (.ref C) "__getattr__" ==some none)&&(hasDictIn K C&&((findIn K (.ref C) "__setattr__" ==some (some (.builtin "object.__setattr__")))&&(plainOver K C&&
 ((c.attrs.all λn=>match findIn K (.ref C) n with|some a=>noGet K a&&(takerIn K C n==some none)|none=>false)&&((c.meths.all λp=>(findIn K (.ref C) p.1==some (some (.ref p.2)))&&(isFn K (.ref p.2)&&fnIn K p.2))&&(clsIn K C).isSome))))))
theorem BW{K:Frag}{C:Nat}{c:Cl}(h:m_ K C c=true):gN K C c:=by
 unfold m_ at h
 simp only[Bool.and_eq_true,beq_iff_eq] at h
 obtain⟨b,d,e,f,g,i,j,k⟩:=h
 refine⟨⟨b,d⟩,e,f,g,λn m=>?_,λp o=>?_,k⟩
 ·have:=List.all_eq_true.mp i n m
  split at this
  ·rename_i a l
   simp only[Bool.and_eq_true,beq_iff_eq] at this
   exact⟨a,l,this.1,this.2⟩
  ·ext this
 ·have:=List.all_eq_true.mp j p o
  simp only[Bool.and_eq_true,beq_iff_eq] at this
  exact this
noncomputable def nc(K:Frag)(C i:Nat):Bool:=makesIn K C&&((findIn K (.ref C) "__init__" ==some (some (.ref i)))&&((typeIn K (.ref i)==some (.type "function"))&&keepIn K (.ref C)))
theorem BX{K:Frag}{C i:Nat}(h:nc K C i=true):mU K C i:=by
 unfold nc at h
 simp only[Bool.and_eq_true,beq_iff_eq] at h
 exact⟨h.1,h.2.1,h.2.2.1⟩
noncomputable def qj(K:Frag)(D:Nat):Bool:=plainGet K D "__class__" &&(hasDictIn K D&&((findIn K (.ref D) "__class__" ==some (some (.builtin "object.__class__")))&&((specialIn K (.builtin "object.__class__") "__get__" ==some (some (.builtin "getset_descriptor.__get__")))&&
 ((takesIn K (.builtin "object.__class__")==some true)&&(mroIn K D (.type "object")==some true)))))
theorem BY{K:Frag}{D:Nat}(h:qj K D=true):lj K D:=by
 unfold qj at h
 simp only[Bool.and_eq_true,beq_iff_eq] at h
 exact⟨h.1,h.2.1,h.2.2.1,h.2.2.2.1,h.2.2.2.2.1,h.2.2.2.2.2⟩
def lG(K:Frag)(k:Nat)(b:Bool):Bool:=(kitOne K (hR (k/4096)) (hR (k % 4096))==some b)&&(Nat.ble (k/4096) 7||qj K (k/4096))
theorem BZ{K:Frag}{T:Tb}(h:T.eM.all (lG K)=true):iG K T:=by
 have k:∀t d b,d<4096->T.eM.get (t*4096+d)=some b->lG K (t*4096+d) b=true/\(t*4096+d)/4096=t/\(t*4096+d) % 4096=d:=λt d b c e=>⟨Tr.fq h e,by rw[Nat.add_comm,Nat.add_mul_div_right _ _ (by decide),Nat.div_eq_of_lt c,Nat.zero_add],Nat.mul_add_mod_of_lt c⟩
 refine⟨λt d b c e=>?_,λt d b i c e=>?_⟩
 ·obtain⟨a,f,g⟩:=k t d b c e
  unfold lG at a
  rw[f,g] at a
  simp only[Bool.and_eq_true,beq_iff_eq] at a
  exact a.1
 ·obtain⟨a,f,g⟩:=k t d b c e
  unfold lG at a
  rw[f,g] at a
  simp only[Bool.and_eq_true,Bool.or_eq_true] at a
  rcases a.2 with q|q
  ·have:=Nat.ble_eq.mp q;lia
  ·exact BY q
theorem eM(P:Params):Tt.sC.all (lG (K2 P))=true:=by rfl'
theorem B0(P:Params):Tt.jR.all (λC c=>m_ (K2 P) C c)=true:=by rfl'
theorem ui(P:Params):Tt.jR.all (λC c=>nc (K2 P) C c.init)=true:=by rfl'
theorem keeps(P:Params):Tt.gL.all (λa b=>keepIn (K2 P) (.ref a))=true:=by rfl'
def nh(p:Arguments×List Stmt×Scope):Bool:=p.1.posonlyargs.isEmpty&&(p.1.kwonlyargs.isEmpty&&(p.1.vararg.isNone&&(p.1.kwarg.isNone&&(apart (p.1.args.map (·.arg))&&(!p.2.2.isCoroutine&&(!p.2.2.isGenerator&&(match p.2.2.kind with|.function=>true|_=>false)))))))
noncomputable abbrev Row:=Nat×Nat×Nat×String×String×Value×Value×Nat
abbrev uj(r:Row):Obj:=Hd.w r.2.1 r.2.2.1 r.2.2.2.1 r.2.2.2.2.1 r.2.2.2.2.2.1 r.2.2.2.2.2.2.1 (.ref r.2.2.2.2.2.2.2)
theorem B1(P:Params):gp.map (λr=>(K2 P).lookup r.1)=gp.map (λr=>some (uj r)):=by rfl'
theorem B3(P:Params):(gp.all λr=>codeIn (K2 P) (.ref r.2.2.2.2.2.2.2) (Hd.z r.2.2.2.2.1))=true:=by
 unfold codeIn
 rewrite[PySem.W.Fast.sDec_eq];rfl'
theorem B4:(gp.all λr=>nh (Hd.fp r.2.1 r.2.2.1))=true:=by rfl'
def rowOf(a x m:Nat):Option Row:=gp.find? λr=>Nat.beq r.1 a&&(Nat.beq r.2.1 x&&Nat.beq r.2.2.1 m)
theorem uk{c i:Type}{f g:c->i}:∀{l:List c},l.map f=l.map g->∀x∈l,f x=g x
 |a::l,h,x,b=>by
  rw[List.map_cons,List.map_cons] at h
  injection h with d e
  rcases List.mem_cons.mp b with rfl|b
  ·exact d
  ·exact uk e x b
theorem um(P:Params){r:Row}(h:r∈gp):(K2 P).lookup r.1=some (uj r)/\codeIn (K2 P) (.ref r.2.2.2.2.2.2.2) (Hd.z r.2.2.2.2.1)=true/\nh (Hd.fp r.2.1 r.2.2.1)=true:=
 ⟨uk (B1 P) r h,List.all_eq_true.mp (B3 P) r h,List.all_eq_true.mp B4 r h⟩
abbrev jm(x m:Nat)(d:List V):Mi.Fn:=⟨x,m,(Tt.fp x m).1.args.map (·.arg),d,(Tt.fp x m).2.1,(Tt.fp x m).2.2⟩
theorem uo{p:Arguments×List Stmt×Scope}(h:nh p=true):p.1.posonlyargs=[]/\p.1.kwonlyargs=[]/\p.1.vararg=none/\p.1.kwarg=none/\(p.1.args.map (·.arg)).Nodup/\p.2.2.isCoroutine=false/\p.2.2.isGenerator=false/\p.2.2.kind=.function:=by
 unfold nh at h
 simp only[Bool.and_eq_true,List.isEmpty_iff,Option.isNone_iff_eq_none,Bool.not_eq_true'] at h
 obtain⟨b,c,d,e,f,g,i,a⟩:=h
 refine⟨b,c,d,e,mY f,g,i,?_⟩
 split at a
 ·assumption
 ·ext a
theorem qk(P:Params){r:Row}(h:r∈gp)(e:r.2.2.2.2.2.1=.none):fT (K2 P) r.1 (jm r.2.1 r.2.2.1 []):=by
 obtain⟨c,d,t⟩:=um P h
 obtain⟨p,f,g,i,j,k,n,o⟩:=uo t
 obtain⟨a,x,m,w,q,v,y,u⟩:=r
 dsimp only at e c d p f g i j k n o⊢
 subst e
 change fT (K2 P) a ⟨x,m,(Hd.fp x m).1.args.map (·.arg),[],(Hd.fp x m).2.1,(Hd.fp x m).2.2⟩
 refine⟨⟨_,_,_,_,_,_,_,_,_,_,_,_,_,c,d,λs ys z l b=>⟨[],.nil,?_⟩⟩,k,n,o⟩
 have l:ys.length<=((Hd.fp x m).1.args.map (·.arg)).length:=l
 have b:((Hd.fp x m).1.args.map (·.arg)).length<=ys.length+0:=b
 rw[List.drop_nil,List.append_nil]
 exact BindsTo.of_eq (zy p f g i rfl rfl j (Nat.le_antisymm b l))
theorem B5{ys:List Value}(h:ys.length<=2)(b:2<=ys.length+1):(∃y,ys=[y])\/∃y z,ys=[y,z]:=by
 cases ys with
 |nil=>exact absurd b (by decide)
 |cons y r=>cases r with
  |nil=>exact .inl ⟨y,rfl⟩
  |cons z r=>cases r with
   |nil=>exact .inr ⟨y,z,rfl⟩
   |cons a r=>exact absurd (Nat.le_of_succ_le_succ (Nat.le_of_succ_le_succ h)) (Nat.not_succ_le_zero _)
theorem B6(P:Params):fT (K2 P) 557 (jm 35 0 [.old 374]):=by
 have m:(557,35,0,"list_of","list_of",Value.ref 550,Value.str (Str.ofString "scheme.data") 652,556)∈gp:=by decide+kernel
 obtain⟨b,c,d⟩:=um P m
 obtain⟨g,i,j,k,n,p,e,f⟩:=uo d
 change fT (K2 P) 557 ⟨35,0,(Hd.fp 35 0).1.args.map (·.arg),[.old 374],(Hd.fp 35 0).2.1,(Hd.fp 35 0).2.2⟩
 refine⟨⟨_,_,_,_,_,_,_,_,_,_,_,_,_,b,c,λs ys q l a=>⟨[.ref 374],.cons rfl .nil,?_⟩⟩,p,e,f⟩
 have l:ys.length<=2:=l
 have a:2<=ys.length+1:=a
 have h:(K2 P).lookup 550=some (Hd.oT [.ref 374]):=by rfl'
 rcases B5 l a with⟨y,rfl⟩|⟨y,o,rfl⟩
 ·exact binds_K q rfl h rfl rfl rfl
 ·exact binds_K q rfl h rfl rfl rfl
def uq(a:Nat)(p:Nat×Nat×List V):Bool:=match rowOf a p.1 p.2.1 with
 |some r=>match p.2.2 with
  |[]=>match r.2.2.2.2.2.1 with|.none=>true|_=>false
  |[.old n]=>Nat.beq a 557&&(Nat.beq p.1 35&&(Nat.beq p.2.1 0&&Nat.beq n 374))
  |_=>false
 |none=>false
theorem B7:Tt.gL.all uq=true:=by rfl'
theorem fns(P:Params):∀a f,Tt.tb.fn a=some f->fT (K2 P) a f:=by
 intro a f e
 have e:(match Tt.gL.get a with|some p=>some (jm p.1 p.2.1 p.2.2)|none=>none)=some f:=e
 split at e
 ·rename_i p u
  ext e
  have h:=Tr.fq B7 u
  unfold uq at h
  split at h
  ·rename_i r q
   have t:r∈gp:=List.mem_of_find?_eq_some q
   have s:=List.find?_some q
   obtain⟨j,c⟩:=Bool.and_eq_true_iff.mp s
   obtain⟨c,k⟩:=Bool.and_eq_true_iff.mp c
   have j:=Nat.eq_of_beq_eq_true j
   have c:=Nat.eq_of_beq_eq_true c
   have k:=Nat.eq_of_beq_eq_true k
   cases i:p.2.2 with
   |nil=>
    rw[i] at h
    cases g:r.2.2.2.2.2.1 with
    |none=>
     have:=qk P t g
     rw[j,c,k] at this
     exact this
    |_=>rw[g] at h;exact Mi.nft h
   |cons v l=>
    cases v<;>try(rw[i] at h;exact Mi.nft h)
    case old n=>
    cases l with
    |cons=>rw[i] at h;exact Mi.nft h
    |nil=>
    rw[i] at h
    obtain⟨m,d⟩:=Bool.and_eq_true_iff.mp h
    obtain⟨d,b⟩:=Bool.and_eq_true_iff.mp d
    obtain⟨b,o⟩:=Bool.and_eq_true_iff.mp b
    have m:=Nat.eq_of_beq_eq_true m
    have d:=Nat.eq_of_beq_eq_true d
    have b:=Nat.eq_of_beq_eq_true b
    have o:=Nat.eq_of_beq_eq_true o
    rw[d,b,o,m]
    exact B6 P
  ·ext h
 ·ext e
theorem B8(P:Params):∀C l,Tt.tb.cls C=some l->gN (K2 P) C l:=λC l e=>BW (Tr.fq (p:=λC c=>m_ (K2 P) C c) (B0 P) e)
theorem B9(P:Params):∀C c,Tt.tb.cls C=some c->mU (K2 P) C c.init:=λC c e=>by
 have e:Tt.jR.get C=some c:=e
 have:=Tr.fq (ui P) e
 exact BX this
theorem B_(P:Params):pR (K2 P) Tt.tb:=by
 intro a h
 rcases h with h|h
 ·have h:(match Tt.gL.get a with|some p=>some (jm p.1 p.2.1 p.2.2)|none=>none).isSome=true:=h
  split at h
  ·rename_i p b
   have:=Tr.fq (keeps P) b
   exact this
  ·ext h
 ·have h:(Tt.jR.get a).isSome=true:=h
  cases q:Tt.jR.get a with
  |none=>rw[q] at h;ext h
  |some c=>
   have:=Tr.fq (ui P) q
   unfold nc at this
   simp only[Bool.and_eq_true] at this
   exact this.2.2.2
def ur(K:Frag)(C:Nat)(n:List Str):Bool:=(clsIn K C).any (λc=>jk c.mro)&&((findIn K (.ref C) "__setattr__" ==some (some (.builtin "object.__setattr__")))&&((clsIn K C).any (·.hasDict)&&n.all λx=>takerIn K C x==some none))
theorem Ca{K:Frag}{C:Nat}{n:List Str}(h:ur K C n=true):m5 K C n:=by
 unfold ur at h
 simp only[Bool.and_eq_true,beq_iff_eq] at h
 obtain⟨a,b,c,d⟩:=h
 exact⟨a,b,c,λx e=>by have:=List.all_eq_true.mp d x e;exact beq_iff_eq.mp this⟩
noncomputable def isVal(f:Nat):Option CFound->Bool
 |some (.val (.ref z))=>Nat.beq z f
 |_=>false
theorem Cb{f:Nat}:∀{o:Option CFound},isVal f o=true->o=some (.val (.ref f))
 |some (.val (.ref z)),h=>by rw[Nat.eq_of_beq_eq_true h]
 |none,h=>by ext h
 |some (.get ..),h=>by ext h
 |some (.val .none),h=>by ext h
 |some (.val (.bool a)),h=>by ext h
 |some (.val (.int a b)),h=>by ext h
 |some (.val (.str a b)),h=>by ext h
 |some (.val (.type a)),h=>by ext h
 |some (.val (.builtin a)),h=>by ext h
 |some (.val (.float a b)),h=>by ext h
 |some (.val (.bytes a b)),h=>by ext h
 |some (.val .notImplemented),h=>by ext h
 |some (.val .ellipsis),h=>by ext h
theorem ni(P:Params):(K2 P).lookup 608=some (excClassObj (z "SyntaxTrouble") (z "SyntaxTrouble") 608 607 [.ref 588] [.ref 588,.type "Exception",.type "BaseException",.type "object"] true [] [] false none none (some (.ref 592)) none
 (some (.str (z "SyntaxTrouble") 992)) (some (.str (z "SyntaxTrouble") 1000)) (some (.bool true)) "Exception.__new__"):=by rfl'
theorem Cc(P:Params):(K2 P).lookup 588=some (excClassObj (z "SchemeError") (z "SchemeError") 588 587 [.type "Exception"] [.type "Exception",.type "BaseException",.type "object"] true [] [.ref 608] false none none (some (.ref 572)) none
 (some (.str (z "SchemeError") 961)) (some (.str (z "SchemeError") 969)) (some (.bool true)) "Exception.__new__"):=by rfl'
theorem ql(P:Params):lF (K2 P) Tt.tb 608:=by
 have m:(605,40,0,"__init__","SyntaxTrouble.__init__",Value.none,Value.str (z "scheme.errors") 959,604)∈gp:=by decide+kernel
 have a:(585,39,0,"__init__","SchemeError.__init__",Value.none,Value.str (z "scheme.errors") 959,584)∈gp:=by decide+kernel
 refine⟨⟨_,_,_,_,_,_,_,_,_,_,_,_,_,_,_,ni P,by decide+kernel,by decide+kernel,by decide+kernel,by decide+kernel⟩,by rfl',605,585,588,jm 40 0 [],jm 39 0 [],_,_,_,_,_,_,_,_,_,_,_,_,_,_,_,_,_,_,_,_,_,_,_,_,_,_,_,_,_,_,_,_,_,_,_,_,_,_,_,.type "type",
  by rfl',by rfl',qk P m rfl,qk P a rfl,rfl,rfl,rfl,rfl,rfl,rfl,?_,?_,?_,?_,?_,?_,?_,?_,?_,by rfl',by rfl',Cb (by rfl'),by rfl',by rfl',Ca (by rfl')⟩<;>rfl'
theorem cos(P:Params):fU (K2 P) 608 608/\fU (K2 P) 608 588:=
 ⟨⟨_,_,_,_,_,_,_,_,_,_,_,_,_,_,_,_,_,_,_,_,_,_,_,_,_,_,_,_,_,_,_,_,_,_,ni P,ni P,by decide+kernel,by decide+kernel⟩,
   ⟨_,_,_,_,_,_,_,_,_,_,_,_,_,_,_,_,_,_,_,_,_,_,_,_,_,_,_,_,_,_,_,_,_,_,ni P,Cc P,by decide+kernel,by decide+kernel⟩⟩
theorem Cd:dp Tt.tb (z "__debug__")=none:=by rfl'
def vB:V->Value->Bool
 |.none,.none=>true
 |.bool a,.bool b=>a==b
 |.int a,.int b c=>dR a b
 |.str a,.str b c=>sq a b
 |.ty a,.type b=>b==tyName a
 |.bi a,.builtin b=>b==sD a
 |.old a,.ref b=>Nat.beq a b
 |_,_=>false
theorem nj{v:V}{x:Value}(h:vB v x=true)(X:List Addr):VR X v x:=by
 cases v<;>cases x<;>first
  |exact Mi.nft h
  |rfl
  |exact congrArg Value.bool (beq_iff_eq.mp h).symm
  |exact congrArg Value.type (beq_iff_eq.mp h)
  |exact congrArg Value.builtin (beq_iff_eq.mp h)
  |exact congrArg Value.ref (Nat.eq_of_beq_eq_true h).symm
  |(rw[←gK.mp h];exact⟨_,rfl⟩)
  |(rw[←d7.mp h];exact⟨_,rfl⟩)
noncomputable def nk:List V->List Value->Bool
 |[],[]=>true
 |v::s,x::xs=>vB v x&&nk s xs
 |_,_=>false
theorem uu:∀{s:List V} {xs:List Value},nk s xs=true->All2 (VR []) s xs
 |[],[],_=>.nil
 |v::s,x::xs,h=>by
  obtain⟨a,b⟩:=Bool.and_eq_true_iff.mp h
  exact .cons (nj a _) (uu b)
 |[],c::d,h=>by ext h
 |c::d,[],h=>by ext h
noncomputable def uv:Value->Bool
 |.type t=>t== "tuple"
 |_=>false
theorem Ce{v:Value}(h:uv v=true):v=.type "tuple" :=by
 cases v<;>first|exact Mi.nft h|exact congrArg Value.type (beq_iff_eq.mp h)
def uw(xs:List V):Data->Bool
 |.seq ys a=>nk xs ys.toList
 |_=>false
theorem Cf{xs:List V}{d:Data}(h:uw xs d=true):∃ys n,d=.seq ys n/\nk xs ys.toList=true:=by
 cases d<;>first|exact Mi.nft h|exact⟨_,_,rfl,h⟩
def Cg(K:Frag)(a:Nat)(xs:List V):Bool:=(K.lookup a).any λo=>uv o.cls&&(o.dict.isNone&&(uw xs o.data&&o.slots.toList.isEmpty))
theorem Ci(P:Params):Tt.pz.all (Cg (K2 P))=true:=by rfl'
def qm(K:Frag)(_:Nat)(p:Str×V):Bool:=match nsIn K 3 p.1 with
 |some (some y)=>vB p.2 y
 |some none=>match nsIn K 0 p.1 with
  |some (some y)=>vB p.2 y
  |_=>false
 |none=>false
theorem mH(P:Params):Tt.glob.all (qm (K2 P))=true:=by
 unfold qm nsIn
 rewrite[PySem.W.Fast.te995047462949696687];rfl'
theorem Cj(P:Params):(nsOkIn (K2 P) 3&&nsOkIn (K2 P) 0)=true:=by rfl'
noncomputable abbrev DL:=List (String×Nat×Value)
noncomputable def qn:DL:=[("quote",2230,.ref 1279),("if",2231,.ref 1286),("lambda",2232,.ref 1293),("set!",2233,.ref 1305),("begin",2234,.ref 1312),("define",2235,.ref 1326),("define-syntax",2236,.ref 1326),("let-syntax",2237,.ref 1347),("letrec-syntax",2238,.ref 1354)]
noncomputable def qo:DL:=[("and",2676,.ref 1572),("or",2677,.ref 1579),("let",2678,.ref 1586),("let*",2679,.ref 1593),("letrec",2680,.ref 1598),("cond",2681,.ref 1612),("case",2682,.ref 1626),("do",2683,.ref 1640),("delay",2684,.ref 1647),("quasiquote",2685,.ref 1654)]
theorem ux(P:Params)(l:DL):Hd.ents P l=l.map λe=>Hd.ent P e.1 e.2.1 e.2.2:=by
 induction l with
 |nil=>rfl
 |cons e l i=>rw[List.map_cons,←i];rfl
noncomputable def lH:List (V×V)->DL->Bool
 |[],[]=>true
 |e::s,p::l=>(match e.1 with|.str x=>sq x (Str.ofString p.1)|_=>false)&&(vB e.2 p.2.2&&lH s l)
 |_,_=>false
theorem Ck{a:List (V×V)}{l:DL}(h:lH a l=true):All2 (ER []) a (l.map λp=>(Ky.s (Str.ofString p.1),p.2.2)):=by
 induction a generalizing l with
 |nil=>cases l with
  |nil=>exact .nil
  |cons=>exact Mi.nft h
 |cons e a i=>cases l with
  |nil=>exact Mi.nft h
  |cons p l=>
   obtain⟨c,b⟩:=Bool.and_eq_true_iff.mp h
   obtain⟨b,d⟩:=Bool.and_eq_true_iff.mp b
   refine .cons ⟨?_,nj b _⟩ (i d)
   obtain⟨f,g⟩:=e
   clear h b d i
   cases f<;>first|exact Mi.nft c|skip
   exact congrArg Ky.s (d7.mp c).symm
theorem uy{J:Program}{w:World}{H:Heap}{a n:Nat}{l:DL}{c:List (V×V)}(f:H.get? a=some (Hd.oD w.params n l))(g:apart (l.map λp=>Str.ofString p.1)=true)(d:lH c l=true):
 ∃k,H.DictOf (c_ J w) a k/\All2 (ER []) c k:=by
 refine⟨_,⟨_,_,_,f,⟨rfl,rfl,rfl⟩,rfl,?_,?_,?_⟩,Ck d⟩
 ·intro e b
  rw[←Array.mem_toList_iff] at b
  have b:e∈Hd.ents w.params l:=by simpa using b
  rw[ux] at b
  obtain⟨p,j,rfl⟩:=List.mem_map.mp b
  exact⟨.s (Str.ofString p.1),by simp[c_,fu,Value.isStrOf],rfl⟩
 ·show Pairs (c_ J w) (Hd.ents w.params l).toArray.toList _
  rw[List.toList_toArray,ux]
  clear f g d
  induction l with
  |nil=>exact .nil
  |cons p l i=>exact .cons (by simp[c_,fu,Value.isStrOf]) rfl i
 ·have:=mY g
  rw[List.map_map]
  exact List.pairwise_map.mpr ((List.pairwise_map.mp this).imp λh q=>h (by injection q))
theorem Cm(P:Params):(K2 P).lookup 1390=some (Hd.oD P 9 qn):=by rfl'
theorem Cn(P:Params):(K2 P).lookup 1655=some (Hd.oD P 10 qo):=by rfl'
def uz(a:Nat)(e:List (V×V)):Bool:=(Nat.beq a 1390&&lH e qn)||(Nat.beq a 1655&&lH e qo)
theorem Co:Tt.pv.all uz=true:=by rfl'
theorem Cp:apart (qn.map λp=>Str.ofString p.1)=true:=by rfl'
theorem Cq:apart (qo.map λp=>Str.ofString p.1)=true:=by rfl'
theorem Cr(P:Params):(K2 P).lookup 374=some (Hd.oI 368 (some 373))/\(K2 P).lookup 377=some (Hd.oI 368 (some 376))/\(K2 P).lookup 380=some (Hd.oI 368 (some 379))/\((K2 P).lookup 373).isSome=true/\((K2 P).lookup 376).isSome=true/\((K2 P).lookup 379).isSome=true/\((K2 P).lookup 1).isSome=true:=
 ⟨by rfl',by rfl',by rfl',by rfl',by rfl',by rfl',by rfl'⟩
theorem qp{K:Frag}{h:Heap}{N:Addr}{m:Str->Option Value}{n:Str}{v:Value}(k:K.In h)(j:h.Ns N m)(e:nsIn K N n=some (some v)):m n=some v:=by
 obtain⟨o,g,p,b,a,l,f⟩:=j
 unfold nsIn at e
 split at e
 ·rename_i c d s i sl q
  have:=k _ _ q
  rw[b] at this
  ext this
  ext a
  split at e
  ·rename_i Y he
   ext e
   rw[←f]
   unfold nsFind findBy
   rw[←Array.find?_toList,he]
   rfl
  ·split at e<;>specialize e
 ·ext e
abbrev lI(a:Nat)(xs:List V):Tb:={Tt.tb with arg:=some (a,xs)}
theorem gd{J:Program}{w:World}{H:Heap}{A:Nat}{B:List V}(aa:(K2 w.params).In H)(p:H.NoLimit)(K:∃ys n,H.get? A=some {cls:=.type "list",dict:=none,data:=.seq ys n,slots:= #[]}/\All2 (VR []) B ys.toList):Gd J w (lI A B) (K2 w.params) H:=by
 obtain⟨L,M,N,O,P,Q,R⟩:=Cr w.params
 have s:∀{a:Nat},((K2 w.params).lookup a).isSome=true->∃o,H.get? a=some o:=λ{a} h=>by
  cases q:(K2 w.params).lookup a with
  |none=>rw[q] at h;ext h
  |some o=>exact⟨o,aa _ _ q⟩
 have l:∀a C,fL a=some C->∃t f,PySem.W.InstAt H a t C (some f):=by
  intro a C h
  unfold fL at h
  generalize b:Nat.beq a 374=zz at h
  cases zz with
  |true=>
   ext h
   rw[Nat.eq_of_beq_eq_true b]
   obtain⟨f,q⟩:=s O
   exact⟨_,f,aa _ _ L,rfl,rfl,q⟩
  |false=>
   generalize e:Nat.beq a 377=zz at h
   cases zz with
   |true=>
    ext h
    rw[Nat.eq_of_beq_eq_true e]
    obtain⟨f,q⟩:=s P
    exact⟨_,f,aa _ _ M,rfl,rfl,q⟩
   |false=>
    generalize i:Nat.beq a 380=zz at h
    cases zz with
    |true=>
     ext h
     rw[Nat.eq_of_beq_eq_true i]
     obtain⟨f,q⟩:=s Q
     exact⟨_,f,aa _ _ N,rfl,rfl,q⟩
    |false=>ext h
 obtain⟨r,u⟩:=Bool.and_eq_true_iff.mp (Cj w.params)
 refine⟨aa,?_,λa C h=>?_,l,λa xs h=>?_,λa es h=>?_,p,(λa xs h=>by ext h;exact K),H.nsMap 3,H.nsMap 0,.of_isNs (isNs_of_in aa r),.of_isNs (isNs_of_in aa u),λx v h=>?_⟩
 ·obtain⟨o,q⟩:=s R
  show H.get? 1≠none
  rw[q];simp
 ·obtain⟨t,f,I⟩:=l a C h
  exact⟨t,I.at_,I.cls⟩
 ·have:=Tr.fq (Ci w.params) h
  obtain⟨⟨c,d,T,S⟩,q,h⟩:=any_some this
  obtain⟨b,h⟩:=Bool.and_eq_true_iff.mp h
  obtain⟨e,h⟩:=Bool.and_eq_true_iff.mp h
  obtain⟨i,D⟩:=Bool.and_eq_true_iff.mp h
  obtain⟨ys,n,i,E⟩:=Cf i
  have b:=Ce b
  have e:=Option.isNone_iff_eq_none.mp e
  have F:S= #[]:=Array.toList_inj.mp (List.isEmpty_iff.mp D)
  dsimp only at b e i
  rw[b,e,i,F] at q
  exact⟨ys,n,aa _ _ q,uu E⟩
 ·have:=Tr.fq Co h
  unfold uz at this
  rcases Bool.or_eq_true_iff.mp this with q|q
  ·obtain⟨b,e⟩:=Bool.and_eq_true_iff.mp q
   have b:=Nat.eq_of_beq_eq_true b
   subst b
   exact⟨by decide,uy (aa _ _ (Cm w.params)) Cp e⟩
  ·obtain⟨b,e⟩:=Bool.and_eq_true_iff.mp q
   have b:=Nat.eq_of_beq_eq_true b
   subst b
   exact⟨by decide,uy (aa _ _ (Cn w.params)) Cq e⟩
 ·unfold dp at h
  split at h
  ·rename_i y v' q
   have g:=Tr.fq (mH w.params) q
   generalize j:sq x y=zz at h
   cases zz with
   |false=>ext h
   |true=>
    ext h
    have j:=d7.mp j
    subst j
    unfold qm at g
    split at g
    ·rename_i z k
     exact⟨z,λX=>nj g X,.inl (qp aa (.of_isNs (isNs_of_in aa r)) k)⟩
    ·rename_i k
     split at g
     ·rename_i z m
      exact⟨z,λX=>nj g X,.inr ⟨ns_none_of aa (.of_isNs (isNs_of_in aa r)) k,qp aa (.of_isNs (isNs_of_in aa u)) m⟩⟩
     ·ext g
    ·ext g
  ·ext h
theorem Cs{J:Program}{w:World}{H:Heap}{s:Nat}{x:List V}(a:(K2 w.params).In H)(l:H.NoLimit)(h:∃ys n,H.get? s=some {cls:=.type "list",dict:=none,data:=.seq ys n,slots:= #[]}/\All2 (VR []) x ys.toList):jY J w (lI s x) (K2 w.params) H (.ref 608):=
 ⟨gd a l h,B8 w.params,BZ (eM w.params),B_ w.params,fns w.params,B9 w.params,⟨(ql w.params).cls,(ql w.params).keep,(ql w.params).init⟩,cos w.params,rfl,Cd⟩
end Gr
namespace Sd
open PySem PySem.W PyProof.Rows PySem.Calls Mi
section
variable{J:Program}{w:World}{h:Heap}
theorem Ct{env':Env}(f:env'.frame=some h.objs.size)(k:env'.scope.kind=.function):
 Sg J w h [env'] h.objs.size [] ⟨0,.e⟩ [] (h.push {cls:=.type "frame",data:=.dict #[]}):=by
 have n:h.get? h.objs.size=none:=jf _
 refine⟨λb o e=>Heap.get?_push_of_some _ e,(λa c=>nomatch c),List.nodup_nil,rfl,(λa c=>nomatch c),(λi o a g d=>by simp at d),n,(λq=>nomatch q),Nat.le_refl _,⟨_,Heap.Ns.new h (.type "frame"),λx=>trivial⟩,?_,(λa j q=>nomatch q)⟩
 exact .cons (by rw[k];decide) f (Heap.Ns.new h (.type "frame")) n trivial
end
end Sd
namespace Mi
open PySem
noncomputable def V.mp(f:Nat->Nat):V->V
 |.ref i=>.ref (f i)
 |v=>v
def em(f:Nat->Nat)(e:V×V):V×V:=(e.1.mp f,e.2.mp f)
def O.mp(f:Nat->Nat):O->O
 |.inst C d=>.inst C (f d)
 |.list xs=>.list (xs.map (V.mp f))
 |.tup xs=>.tup (xs.map (V.mp f))
 |.dict e=>.dict (e.map (em f))
 |.cell v=>.cell (v.map (V.mp f))
def lm(f:Nat->Nat)(l:List (Str×V)):List (Str×V):=l.map λp=>(p.1,p.2.mp f)
noncomputable def cm(f:Nat->Nat)(l:List (Str×Nat)):List (Str×Nat):=l.map λp=>(p.1,f p.2)
def En.mp(f:Nat->Nat)(Y:En):En:=⟨Y.sc,lm f Y.loc,cm f Y.bF⟩
def Src.mp(f:Nat->Nat):Src->Src
 |.lst l=>.lst (f l)
 |.tup v=>.tup (v.mp f)
 |.cY a c n=>.cY a c n
def Fl.mp(f:Nat->Nat):Fl->Fl
 |.ret v=>.ret (v.mp f)
 |x=>x
structure Rel(f:Nat->Nat)(g:Nat->Option O)(G U:Hp):Prop where
 inj:∀i j,f i=f j->i=j
 sh:∀k,f (G.length+k)=U.length+k
 lo:∀i,i<G.length->f i<U.length
 has:∀i o,G.get i=some o->U.get (f i)=some (o.mp f)
 fr:∀j,j<U.length->(∀i,i<G.length->f i=j->G.get i=none)->U.get j=g j
theorem Rel.len{f g G U}(r:Rel f g G U):f G.length=U.length:=r.sh 0
theorem Rel.push{f g G U}(r:Rel f g G U)(o:O):Rel f g (G.push o) (U.push (o.mp f)):=by
 refine⟨r.inj,λk=>?_,λi h=>?_,λi x h=>?_,λj h q=>?_⟩
 ·rw[Hp.length_push,Hp.length_push,Nat.add_assoc,Nat.add_assoc,r.sh]
 ·rw[Hp.length_push] at*
  rcases Nat.lt_succ_iff_lt_or_eq.mp h with h|h
  ·exact Nat.lt_succ_of_lt (r.lo i h)
  ·rw[h,r.len];exact Nat.lt_succ_self _
 ·rw[Hp.hJ] at h⊢
  by_cases e:i=G.length
  ·rw[if_pos e] at h;ext h
   rw[if_pos (by rw[e,r.len])]
  ·rw[if_neg e] at h
   have:=r.lo i (Hp.cj h)
   rw[if_neg (Nat.ne_of_lt this)];exact r.has i x h
 ·rw[Hp.length_push] at*
  rw[Hp.hJ]
  by_cases e:j=U.length
  ·have:=q G.length (Nat.lt_succ_self _) (by rw[r.len,e])
   rw[Hp.cB] at this;ext this
  ·rw[if_neg e]
   refine r.fr j (by lia) λi b a=>?_
   have:=q i (by omega) a
   rwa [Hp.hJ,if_neg (by omega)] at this
theorem Rel.set{f g G U}(r:Rel f g G U){i:Nat}{x:O}(d:G.get i=some x)(o:O):Rel f g (G.set i o) (U.set (f i) (o.mp f)):=by
 have a:=Hp.cj d
 refine⟨r.inj,λk=>?_,λj h=>?_,λj y h=>?_,λj h q=>?_⟩
 ·rw[Hp.length_set,Hp.length_set,r.sh]
 ·rw[Hp.length_set] at*;exact r.lo j h
 ·rw[Hp.get_set] at h⊢
  by_cases e:j=i
  ·rw[if_pos e,if_pos (by rw[e];exact a)] at h;ext h
   rw[if_pos (by rw[e]),if_pos (by rw[e];exact r.lo i a)]
  ·rw[if_neg e] at h
   rw[if_neg λq=>e (r.inj _ _ q)]
   exact r.has j y h
 ·rw[Hp.length_set] at*
  have b:j≠f i:=λe=>by
   have:=q i a e.symm
   rw[Hp.eN a] at this;ext this
  rw[Hp.eg (Ne.symm b)]
  refine r.fr j h λk c e=>?_
  have:=q k c e
  rwa [Hp.eg (λz=>b (by rw[z,e]))] at this
noncomputable def V.gq:V->Bool
 |.ref a=>false
 |_=>true
theorem V.lJ{f}{v:V}(h:v.gq=true):v.mp f=v:=by cases v<;>first|rfl|specialize h
theorem V.jZ{f}:∀{l:List V},l.all V.gq=true->l.map (V.mp f)=l
 |[],_=>rfl
 |v::l,h=>by
  rw[List.all_cons,Bool.and_eq_true] at h
  rw[List.map_cons,V.lJ h.1,V.jZ h.2]
def nq(l:List (V×V)):Bool:=l.all λe=>e.1.gq&&e.2.gq
theorem qq{f}:∀{l:List (V×V)},nq l=true->l.map (em f)=l
 |[],_=>rfl
 |e::l,h=>by
  unfold nq at h
  rw[List.all_cons,Bool.and_eq_true,Bool.and_eq_true] at h
  rw[List.map_cons,qq h.2]
  unfold em
  rw[V.lJ h.1.1,V.lJ h.1.2]
structure de(T T':Tb):Prop where
 glob:T'.glob=T.glob
 fn:T'.fn=T.fn
 cls:T'.cls=T.cls
 bO:T'.bO=T.bO
 dW:T'.dW=T.dW
 cH:T'.cH=T.cH
 base:T'.base=T.base
 eM:T'.eM=T.eM
 arg:T.arg=none
 sg:T.glob.all (λ_ p=>p.2.gq)=true
 st:∀a xs,T.bO a=some xs->xs.all V.gq=true
 sd:∀a es,T.dW a=some es->nq es=true
 sf:∀a f,T.fn a=some f->f.dflt.all V.gq=true
section
variable{f:Nat->Nat}
@[simp] theorem Cu:V.mp f .none=.none:=rfl
@[simp] theorem Cv (b):V.mp f (.bool b)=.bool b:=rfl
@[simp] theorem nr (b):V.mp f (.int b)=.int b:=rfl
@[simp] theorem nu (b):V.mp f (.str b)=.str b:=rfl
@[simp] theorem uA (b):V.mp f (.ty b)=.ty b:=rfl
@[simp] theorem uB (b):V.mp f (.bi b)=.bi b:=rfl
@[simp] theorem fW (b):V.mp f (.old b)=.old b:=rfl
@[simp] theorem cC (b):V.mp f (.ref b)=.ref (f b):=rfl
theorem qr(x:Str):∀l,lk x (lm f l)=(lk x l).map (V.mp f)
 |[]=>rfl
 |e::l=>by
  have:=qr x l
  unfold lm at this⊢
  rw[List.map_cons,jN,jN]
  rw[this]
  cases sq x e.1<;>rfl
theorem nv(x:Str):∀l,lk x (cm f l)=(lk x l).map f
 |[]=>rfl
 |e::l=>by
  have:=nv x l
  unfold cm at this⊢
  rw[List.map_cons,jN,jN]
  rw[this]
  cases sq x e.1<;>rfl
theorem uC(x:Str)(v:V):∀l,put x (v.mp f) (lm f l)=lm f (put x v l)
 |[]=>rfl
 |e::l=>by
  have:=uC x v l
  unfold lm at this⊢
  rw[List.map_cons,ph,ph]
  rw[this]
  cases sq x e.1<;>rfl
variable{g:Nat->Option O}{G U:Hp}
theorem qs(r:Rel f g G U)(a b:V):cM (a.mp f) (b.mp f)=cM a b:=by
 cases a<;>cases b<;>try rfl
 rename_i i j
 show Nat.beq (f i) (f j)=Nat.beq i j
 rw[Bool.eq_iff_iff,Nat.beq_eq,Nat.beq_eq]
 exact⟨r.inj i j,λe=>by rw[e]⟩
theorem Cw(r:Rel f g G U)(i j:Nat):Nat.beq (f i) (f j)=Nat.beq i j:=by
 rw[Bool.eq_iff_iff,Nat.beq_eq,Nat.beq_eq]
 exact⟨r.inj i j,λe=>by rw[e]⟩
theorem j0(r:Rel f g G U)(k:V):∀s,cb (k.mp f) (s.map (em f))=(cb k s).map (V.mp f)
 |[]=>rfl
 |e::s=>by
  rw[List.map_cons,my,my]
  rw[j0 r k s,show(em f e).1=e.1.mp f from rfl,qs r]
  cases cM e.1 k<;>rfl
theorem qt(r:Rel f g G U)(k v:V):∀s,dput (k.mp f) (v.mp f) (s.map (em f))=(dput k v s).map (em f)
 |[]=>rfl
 |e::s=>by
  rw[List.map_cons];unfold dput
  rw[qt r k v s,show(em f e).1=e.1.mp f from rfl,qs r]
  cases cM e.1 k<;>rfl
theorem uD(r:Rel f g G U)(s:Str)(e):cb (.str s) (e.map (em f))=(cb (.str s) e).map (V.mp f):=j0 r (.str s) e
theorem uE(a b:V):fM (a.mp f) (b.mp f)=fM a b:=by cases a<;>cases b<;>rfl
theorem uF:∀xs ys:List V,gX (xs.map (V.mp f)) (ys.map (V.mp f))=gX xs ys
 |[],[]=>rfl
 |[],c::d=>rfl
 |c::d,[]=>rfl
 |a::xs,b::ys=>by
  rw[List.map_cons,List.map_cons];unfold gX
  rw[uE,uF xs ys]
theorem qu(k:V):∀xs:List V,eqs (k.mp f) (xs.map (V.mp f))=eqs k xs
 |[]=>rfl
 |a::xs=>by
  rw[List.map_cons];unfold eqs
  rw[uE,qu k xs]
theorem Cx(k:V)(xs):jD (k.mp f) (xs.map (V.mp f))=jD k xs:=by unfold jD;rw[qu]
theorem Cy(k:V)(xs):idx (k.mp f) (xs.map (V.mp f))=idx k xs:=by unfold idx;rw[qu]
theorem nx(k:V):isKey (k.mp f)=isKey k:=by cases k<;>rfl
theorem uG(r:Rel f g G U)(k:V)(e):inD (k.mp f) (e.map (em f))=inD k e:=by
 unfold inD;rw[j0 r];cases cb k e<;>rfl
theorem Cz{x:Option O}{b}(h:eb x=some b):eb (x.map (O.mp f))=some b:=by
 cases x with
 |none=>ext h
 |some o=>cases o<;>first|exact h|specialize h
theorem jn(v:V):truth (v.mp f)=truth v:=by cases v<;>rfl
theorem CA(v:V):jE (v.mp f)=jE v:=by cases v<;>rfl
theorem uH(v:V):noRef (v.mp f)=noRef v:=by cases v<;>rfl
theorem CB(x:Option V):fK (x.map (V.mp f))=(fK x).map (V.mp f):=by
 cases x with
 |none=>rfl
 |some v=>cases v<;>rfl
variable{T T':Tb}
theorem CC(s:de T T'){x:Str}{v:V}(h:dp T x=some v):dp T' x=some v/\v.mp f=v:=by
 unfold dp at h⊢
 rw[s.glob]
 refine⟨h,?_⟩
 generalize e:T.glob.get (code x)=zz at h
 cases zz with
 |none=>ext h
 |some p=>
  have:=Tr.fq s.sg e
  revert h
  show(bif sq x p.1 then some p.2 else none)=some v->_
  cases sq x p.1
  ·exactλh=>nomatch h
  ·intro h;ext h;exact V.lJ this
theorem qw{s:de T T'}(x:Str):dp T' x=dp T x:=by unfold dp;rw[s.glob]
theorem uI(s:de T T')(r:Rel f g G U){Y:En}{x:Str}{v:V}(h:name T Y G x=some v):name T' (Y.mp f) U x=some (v.mp f):=by
 rw[jc] at h⊢
 simp only[En.mp]
 generalize e:lk x Y.sc=zz at h
 cases zz with
 |none=>ext h
 |some k=>
  cases k<;>try(specialize h;done)
  ·simp only at h⊢;rw[qr,h];rfl
  ·simp only at h⊢
   rw[nv]
   generalize b:lk x Y.bF=zz at h
   cases zz with
   |none=>ext h
   |some i=>
    simp only[Option.map_some] at h⊢
    generalize a:G.get i=zz at h
    cases zz with
    |none=>ext h
    |some o=>
     rw[r.has i o a]
     cases o<;>try(specialize h;done)
     simp only at h;subst h;rfl
  ·simp only at h⊢
   have:=CC (f:=f) s h
   rw[this.1,this.2]
theorem uJ(s:de T T')(C n):eY T' C n=eY T C n:=by unfold eY;rw[s.cls]
theorem uK(s:de T T')(r:Rel f g G U){v:V}{n:Str}{x:V}(h:dq T G v n=some x):dq T' U (v.mp f) n=some (x.mp f):=by
 cases v<;>try(specialize h;done)
 rename_i i
 unfold dq at h⊢
 simp only[cC] at h⊢
 generalize e:G.get i=zz at h
 cases zz with
 |none=>ext h
 |some o=>
  rw[r.has i o e]
  cases o<;>try(specialize h;done)
  rename_i C d
  simp only[O.mp] at h⊢
  rw[uJ s]
  by_cases q:eY T C n=true
  ·rw[if_pos q] at h⊢
   generalize a:G.get d=zz at h
   cases zz with
   |none=>ext h
   |some o=>
    rw[r.has d o a]
    cases o<;>try(specialize h;done)
    simp only[O.mp] at h⊢
    rw[uD r,CB,h];rfl
  ·rw[if_neg q] at h;ext h
theorem uL(r:Rel f g G U){a b:V}{x}(h:eZ G a b=some x):eZ U (a.mp f) (b.mp f)=some x:=by
 have n:∀{i y},eb (G.get i)=some y->eb (U.get (f i))=some y:=by
  intro i y h
  cases e:G.get i with
  |none=>rw[e] at h;ext h
  |some o=>rw[r.has i o e];exact Cz (x:=some o) (e▸h)
 cases a<;>cases b<;>try(first|exact h|specialize h)
 ·rename_i a i
  simp only[fW,cC]
  unfold eZ at h⊢
  simp only at h⊢
  split at h
  ·rw[if_pos (by assumption)];exact n h
  ·ext h
 ·rename_i i a
  simp only[fW,cC]
  unfold eZ at h⊢
  simp only at h⊢
  split at h
  ·rw[if_pos (by assumption)];exact n h
  ·ext h
 ·rename_i i j
  simp only[cC]
  unfold eZ at h⊢
  simp only at h⊢
  rw[Cw r]
  split at h
  ·rw[if_pos (by assumption)]
   generalize e:G.get i=zz at h
   cases zz with
   |none=>ext h
   |some o=>rw[r.has i o e];exact h
  ·rw[if_neg (by assumption)]
   generalize e:eb (G.get i)=zz at h
   cases zz with
   |none=>ext h
   |some y=>
    rw[n e];exact n h
theorem uM(r:Rel f g G U){a b:V}{x}(h:ec G a b=some x):ec U (a.mp f) (b.mp f)=some x:=by
 cases a<;>cases b<;>try(first|exact h|specialize h)
 rename_i i j
 simp only[cC]
 unfold ec at h⊢
 simp only at h⊢
 cases e:G.get i with
 |none=>rw[e] at h;ext h
 |some o=>
  cases c:G.get j with
  |none=>rw[e,c] at h;cases o<;>specialize h
  |some d=>
   rw[e,c] at h
   rw[r.has i o e,r.has j d c]
   cases o<;>cases d<;>try(specialize h;done)
   simp only[O.mp,List.length_map,uF] at h⊢
   exact h
theorem CE{p}{a b:V}{x}(h:iY p a b=some x):iY p (a.mp f) (b.mp f)=some x:=by
 cases a<;>cases b<;>first|exact h|specialize h
theorem CF(s:de T T')(r:Rel f g G U){a b:V}{x}(h:kE T G a b=some x):kE T' U (a.mp f) (b.mp f)=some x:=by
 cases b<;>try(specialize h;done)
 ·rename_i d
  unfold kE at h⊢
  simp only[fW] at h⊢
  rw[nx,s.dW]
  split at h
  ·rw[if_pos (by assumption)]
   generalize e:T.dW d=zz at h
   cases zz with
   |none=>ext h
   |some c=>
    have:=uG r a c
    rw[qq (s.sd d c e)] at this
    simp only[Option.map_some] at h⊢
    rw[this];exact h
  ·ext h
 ·rename_i i
  obtain⟨o,e,h⟩:=Option.bind_eq_some_iff.mp (show(G.get i).bind (kD a)=some x from h)
  show(U.get (f i)).bind (kD (a.mp f))=some x
  rw[r.has i o e]
  cases o<;>try(specialize h;done)
  ·show jD (a.mp f) _=some x
   rw[Cx];exact h
  ·show(if isKey (a.mp f)=true then some (inD (a.mp f) _) else none)=some x
   rw[uG r,nx];exact h
theorem qx(s:de T T')(r:Rel f g G U){op a b x}(h:cmp T G op a b=some x):cmp T' U op (a.mp f) (b.mp f)=some x:=by
 cases op<;>first
  |exact uM r h
  |exact CE h
  |exact uL r h
  |exact CF s r h
  |(unfold cmp at h⊢
    simp only at h⊢
    first
    |(cases e:ec G a b with
      |none=>rw[e] at h;ext h
      |some y=>rw[e] at h;rw[uM r e];exact h)
    |(cases e:eZ G a b with
      |none=>rw[e] at h;ext h
      |some y=>rw[e] at h;rw[uL r e];exact h))
  |specialize h
noncomputable def RO{b:Type}(f:Nat->Nat)(g:Nat->Option O)(mp:b->b)(x y:Option (R b)):Prop:=match x with
 |none=>True
 |some (.ok a G)=>∃U,y=some (.ok (mp a) U)/\Rel f g G U
 |some (.exc G)=>∃U,y=some (.exc U)/\Rel f g G U
noncomputable def bI(f:Nat->Nat)(g:Nat->Option O)(x y:Option RS):Prop:=match x with
 |none=>True
 |some (.ok l Q G)=>∃U,y=some (.ok (l.mp f) (lm f Q) U)/\Rel f g G U
 |some (.exc Q G)=>∃U,y=some (.exc (lm f Q) U)/\Rel f g G U
theorem RO.ok{b:Type}{mp:b->b}{a:b}(r:Rel f g G U):RO f g mp (some (.ok a G)) (some (.ok (mp a) U)):=⟨U,rfl,r⟩
theorem RO.no{a:Type}{mp:a->a}{y}:RO f g mp none y:=trivial
theorem bI.no{y}:bI f g none y:=trivial
theorem RO.opt{b:Type}{x:Option b}{F c:b->V×Hp}(h:∀a,(c a).1=(F a).1.mp f/\Rel f g (F a).2 (c a).2):RO f g (V.mp f) ((x.map F).map λp=>R.ok p.1 p.2) ((x.map c).map λp=>R.ok p.1 p.2):=by
 cases x with
 |none=>exact RO.no
 |some a=>exact⟨(c a).2,by rw[←(h a).1];rfl,(h a).2⟩
theorem uN(r:Rel f g G U){i:Nat}{xs:List V}(h:ed (G.get i)=some xs):ed (U.get (f i))=some (xs.map (V.mp f)):=by
 generalize e:G.get i=zz at h
 cases zz with
 |none=>ext h
 |some o=>
  rw[r.has i o e]
  cases o<;>first|(specialize h;done)|(specialize h;rfl)
theorem CG(r:Rel f g G U){i:Nat}{xs:List V}(h:gE (G.get i)=some xs):gE (U.get (f i))=some (xs.map (V.mp f)):=by
 generalize e:G.get i=zz at h
 cases zz with
 |none=>ext h
 |some o=>
  rw[r.has i o e]
  cases o<;>first|(specialize h;done)|(specialize h;rfl)
theorem CH{x y a b:Option (List V)}{l:List V}(h:fZ x y=some l)(d:∀l,x=some l->a=some (l.map (V.mp f)))(e:∀l,y=some l->b=some (l.map (V.mp f))):fZ a b=some (l.map (V.mp f)):=by
 cases x with
 |none=>ext h
 |some xs=>
  cases y with
  |none=>ext h
  |some ys=>
   rw[d xs rfl,e ys rfl]
   dsimp only[fZ,Option.bind] at h⊢
   rw[List.length_map,List.length_map]
   generalize c:bS (xs.length+ys.length)=zz at h
   cases zz with
   |false=>ext h
   |true=>ext h;rw[List.map_append];rfl
theorem CI{x y a b:Option (List V)}{l:List V}(h:f7 x y=some l)(d:∀l,x=some l->a=some (l.map (V.mp f)))(e:∀l,y=some l->b=some (l.map (V.mp f))):f7 a b=some (l.map (V.mp f)):=by
 cases x with
 |none=>ext h
 |some xs=>
  cases y with
  |none=>ext h
  |some ys=>
   rw[d xs rfl,e ys rfl]
   dsimp only[f7,Option.bind] at h⊢
   rw[List.length_map,List.length_map,List.isEmpty_map,List.isEmpty_map]
   cases c:bS (xs.length+ys.length)&&(!xs.isEmpty&&!ys.isEmpty) with
   |false=>rw[c] at h;ext h
   |true=>rw[c] at h;ext h;rw[List.map_append];rfl
theorem CJ(s:de T T')(r:Rel f g G U)(o:Operator)(a b:V):RO f g (V.mp f) (bin o G a b T.bO) (bin o U (a.mp f) (b.mp f) T'.bO):=by
 cases a<;>cases b<;>first|exact RO.no|skip
 ·exact RO.opt λz=>⟨rfl,r⟩
 ·rename_i t j
  cases o<;>first|exact RO.no|skip
  show RO f g (V.mp f) (((f7 (T.bO t) (gE (G.get j))).map _).map _) _
  cases e:f7 (T.bO t) (gE (G.get j)) with
  |none=>exact RO.no
  |some l=>
   refine⟨_,?_,r.push (.tup l)⟩
   show((f7 (T'.bO t) (gE (U.get (f j)))).map _).map _=_
   rw[CI e (λl q=>by rw[s.bO,q,V.jZ (s.st t l q)]) (λl q=>CG r q),cC,r.len]
   rfl
 ·rename_i i j
  cases o<;>first|exact RO.no|skip
  show RO f g (V.mp f) (((fZ (ed (G.get i)) (ed (G.get j))).map _).map _) _
  cases e:fZ (ed (G.get i)) (ed (G.get j)) with
  |none=>exact RO.no
  |some l=>
   refine⟨_,?_,r.push (.list l)⟩
   show((fZ (ed (U.get (f i))) (ed (U.get (f j)))).map _).map _=_
   rw[CH e (λl q=>uN r q) (λl q=>uN r q),cC,r.len]
   rfl
theorem CK(s:de T T')(r:Rel f g G U){v:V}{xs}(h:fN T G v=some xs):fN T' U (v.mp f)=some (xs.map (V.mp f)):=by
 cases v<;>try(specialize h;done)
 ·rename_i t
  unfold fN at h⊢
  simp only[fW] at h⊢
  rw[s.bO,h,V.jZ (s.st t xs h)]
 ·rename_i i
  unfold fN at h⊢
  simp only[cC] at h⊢
  generalize e:G.get i=zz at h
  cases zz with
  |none=>ext h
  |some o=>
   rw[r.has i o e]
   cases o<;>first|(specialize h;rfl)|specialize h
def ny(T:Tb)(G:Hp)(o k:V):Option V:=match o with
 |.ref d=>match G.get d with
  |some (.dict e)=>cb k e
  |_=>.none
 |.old d=>(T.dW d).bind (cb k)
 |_=>.none
theorem CL(s:de T T')(r:Rel f g G U){o k x:V}(h:ny T G o k=some x):ny T' U (o.mp f) (k.mp f)=some (x.mp f):=by
 cases o<;>try(specialize h;done)
 ·rename_i d
  unfold ny at h⊢
  simp only[fW] at h⊢
  rw[s.dW]
  generalize e:T.dW d=zz at h
  cases zz with
  |none=>ext h
  |some a=>
   have:=j0 r k a
   rw[qq (s.sd d a e)] at this
   show cb (k.mp f) a=_
   rw[this]
   rw[show cb k a=some x from h];rfl
 ·rename_i d
  unfold ny at h⊢
  simp only[cC] at h⊢
  generalize e:G.get d=zz at h
  cases zz with
  |none=>ext h
  |some o=>
   rw[r.has d o e]
   cases o<;>try(specialize h;done)
   simp only[O.mp] at h⊢
   rw[j0 r,h];rfl
theorem CM(s:de T T')(r:Rel f g G U){o i x:V}(h:sub T G o i=some x):sub T' U (o.mp f) (i.mp f)=some (x.mp f):=by
 ext i
 case int k=>
  unfold sub at h⊢
  simp only[nr] at h⊢
  split at h
  ·rw[if_pos (by assumption)]
   generalize e:fN T G o=zz at h
   cases zz with
   |none=>ext h
   |some xs=>
    rw[CK s r e]
    show(xs.map (V.mp f))[k.toNat]? =_
    rw[List.getElem?_map,show xs[k.toNat]? =some x from h];rfl
  ·ext h
 all_goals exact CL s r h
theorem CN(c:Const){v}(h:const c=some v):v.mp f=v:=by cases c<;>first|(specialize h;rfl)|specialize h
theorem CP(r:Rel f g G U){v:V}{x}(h:e_ G v=some x):e_ U (v.mp f)=some x:=by
 cases v<;>try exact h
 rename_i i
 obtain⟨o,e,h⟩:=Option.bind_eq_some_iff.mp (show(G.get i).bind kF=some x from h)
 show(U.get (f i)).bind kF=some x
 rw[r.has i o e]
 cases o<;>exact h
theorem uO(s:de T T')(r:Rel f g G U){v c:V}{x}(h:ey T G v c=some x):ey T' U (v.mp f) (c.mp f)=some x:=by
 unfold ey at h⊢
 generalize e:e_ G v=zz at h
 cases zz with
 |none=>ext h
 |some t=>rw[CP r e,CA,s.eM];exact h
theorem uP(s:de T T')(r:Rel f g G U){v:V}{x}:∀{cs:List V},isAny T G v cs=some x->isAny T' U (v.mp f) (cs.map (V.mp f))=some x
 |[],h=>h
 |c::cs,h=>by
  rw[List.map_cons]
  unfold isAny at h⊢
  generalize e:ey T G v c=zz at h
  cases zz with
  |none=>ext h
  |some b=>
   rw[uO s r e]
   ext b
   ·exact uP s r h
   ·exact h
theorem CQ(s:de T T')(r:Rel f g G U){v c:V}{x}(h:fh T G v c=some x):fh T' U (v.mp f) (c.mp f)=some x:=by
 ext c
 case ref i=>
  unfold fh at h⊢
  simp only[cC] at h⊢
  generalize e:G.get i=zz at h
  cases zz with
  |none=>ext h
  |some o=>
   rw[r.has i o e]
   cases o<;>try(specialize h;done)
   simp only[O.mp,List.isEmpty_map] at h⊢
   split at h
   ·ext h
   ·rw[if_neg (by assumption)];exact uP s r h
 all_goals (unfold fh at h⊢;simp only[Cu,Cv,nr,nu,uA,uB,fW] at h⊢;exact uO (c:=_) s r h)
theorem RO.ite{a:Type}{mp:a->a}{c:Prop} [Decidable c]{x y:Option (R a)}(h:RO f g mp x y):RO f g mp (if c then x else none) (if c then y else none):=by
 split
 ·exact h
 ·exact RO.no
theorem RO.eA{c:Type}{mp:c->c}{a b:c}(r:Rel f g G U)(e:b=mp a):RO f g mp (some (.ok a G)) (some (.ok b U)):=⟨U,by rw[e],r⟩
theorem RO.new{o:O}(r:Rel f g G U){a:O}(e:a=o.mp f):RO f g (V.mp f) (some (.ok (.ref G.length) (G.push o))) (some (.ok (.ref U.length) (U.push a))):=
 ⟨U.push (o.mp f),by rw[cC,r.len,e],r.push o⟩
theorem CS(r:Rel f g G U)(v:V):RO f g (V.mp f) (iZ v G) (iZ (v.mp f) U):=by
 cases v<;>try exact RO.no
 rename_i i
 unfold iZ
 dsimp only[cC]
 cases e:G.get i with
 |none=>exact RO.no
 |some o=>
  rw[r.has i o e]
  cases o<;>try exact RO.no
  all_goals
   simp only[O.mp,List.length_map]
   exact RO.ite (RO.eA r rfl)
theorem CT(r:Rel f g G U)(v:V):RO f g (V.mp f) (oZ v G) (oZ (v.mp f) U):=by
 cases v<;>first|exact RO.no|exact RO.eA r rfl
theorem CU(r:Rel f g G U)(v:V):RO f g (V.mp f) (iw v G) (iw (v.mp f) U):=by
 cases v<;>try exact RO.no
 rename_i i
 unfold iw
 dsimp only[cC]
 cases e:G.get i with
 |none=>exact RO.no
 |some o=>
  rw[r.has i o e]
  cases o<;>try exact RO.no
  simp only[O.mp,List.length_map]
  exact RO.ite (RO.new r rfl)
theorem CV(r:Rel f g G U)(v:V):RO f g (V.mp f) (ix v G) (ix (v.mp f) U):=by
 cases v<;>try exact RO.no
 rename_i i
 unfold ix
 dsimp only[cC]
 cases e:G.get i with
 |none=>exact RO.no
 |some o=>
  rw[r.has i o e]
  cases o<;>try exact RO.no
  simp only[O.mp,List.length_map]
  exact RO.ite (RO.new r rfl)
theorem CW(s:de T T')(r:Rel f g G U)(v:V)(c:List V):RO f g (V.mp f) (cF T v c G) (cF T' (v.mp f) (c.map (V.mp f)) U):=by
 unfold cF
 cases v<;>try exact RO.no
 case ty n=>
  dsimp only[uA]
  rcases n with d|h|n
  ·cases c with
   |nil=>exact RO.no
   |cons a c=>cases c with
    |nil=>exact CU r a
    |cons=>exact RO.no
  ·cases c with
   |nil=>exact RO.no
   |cons a c=>cases c with
    |nil=>exact CV r a
    |cons=>exact RO.no
  ·exact RO.no
 case bi n=>
  dsimp only[uB]
  rcases n with d|h|i|n
  ·cases c with
   |nil=>exact RO.no
   |cons a c=>cases c with
    |nil=>exact CS r a
    |cons=>exact RO.no
  ·cases c with
   |nil=>exact RO.no
   |cons a c=>cases c with
    |nil=>exact CT r a
    |cons=>exact RO.no
  ·cases c with
   |nil=>exact RO.no
   |cons a c=>cases c with
    |nil=>exact RO.no
    |cons b c=>cases c with
     |cons=>exact RO.no
     |nil=>
      simp only[List.map_cons,List.map_nil]
      cases e:fh T G a b with
      |none=>exact RO.no
      |some x=>rw[CQ s r e];exact RO.eA r rfl
  ·exact RO.no
theorem CX(r:Rel f g G U){i:Nat}{xs:List V}(e:G.get i=some (.list xs))(s:List V):RO f g (V.mp f) (i0 i xs s G) (i0 (f i) (xs.map (V.mp f)) (s.map (V.mp f)) U):=by
 unfold i0
 cases s with
 |nil=>exact RO.no
 |cons a s=>cases s with
  |cons=>exact RO.no
  |nil=>
   simp only[List.map_cons,List.map_nil,List.length_map]
   refine RO.ite ⟨_,rfl,?_⟩
   have:=r.set e (.list (xs++[a]))
   rwa [O.mp,List.map_append] at this
theorem CY(r:Rel f g G U){i:Nat}{xs:List V}(e:G.get i=some (.list xs))(s:List V):RO f g (V.mp f) (i5 i xs s G) (i5 (f i) (xs.map (V.mp f)) (s.map (V.mp f)) U):=by
 unfold i5
 cases s with
 |nil=>
  simp only[List.map_nil,List.length_map]
  refine RO.ite ?_
  rw[List.getLast?_map]
  cases xs.getLast? with
  |none=>exact RO.no
  |some v=>
   refine⟨_,rfl,?_⟩
   have:=r.set e (.list xs.dropLast)
   rwa [O.mp,List.map_dropLast] at this
 |cons a s=>cases s with
  |cons=>cases a<;>exact RO.no
  |nil=>
   cases a<;>try exact RO.no
   simp only[List.map_cons,List.map_nil,List.length_map,nr]
   refine RO.ite ?_
   cases xs with
   |nil=>exact RO.no
   |cons v xs=>
    exact⟨_,rfl,r.set e (.list xs)⟩
theorem uQ(r:Rel f g G U)(xs s:List V):RO f g (V.mp f) (gF xs s G) (gF (xs.map (V.mp f)) (s.map (V.mp f)) U):=by
 unfold gF
 cases s with
 |nil=>exact RO.no
 |cons a s=>cases s with
  |cons=>exact RO.no
  |nil=>
   simp only[List.map_cons,List.map_nil,List.length_map,Cy]
   refine RO.ite ?_
   cases idx a xs with
   |none=>exact RO.no
   |some m=>exact RO.eA r rfl
theorem CZ(r:Rel f g G U)(e:List (V×V))(s:List V):RO f g (V.mp f) (jF e s G) (jF (e.map (em f)) (s.map (V.mp f)) U):=by
 unfold jF
 cases s with
 |nil=>exact RO.no
 |cons a s=>cases s with
  |nil=>exact RO.no
  |cons d s=>cases s with
   |cons=>exact RO.no
   |nil=>
    simp only[List.map_cons,List.map_nil,nx]
    refine RO.ite (RO.eA r ?_)
    rw[j0 r];cases cb a e<;>rfl
theorem lK(s:de T T')(r:Rel f g G U)(o:V)(n:Nat)(a:List V):RO f g (V.mp f) (cf T o n a G) (cf T' (o.mp f) n (a.map (V.mp f)) U):=by
 unfold cf
 cases o<;>try exact RO.no
 case old t=>
  simp only[fW]
  rcases n with c|d|h|j|n<;>try exact RO.no
  rw[s.bO]
  simp only
  cases e:T.bO t with
  |none=>exact RO.no
  |some xs=>
   have:=uQ r xs a
   rwa [V.jZ (s.st t xs e)] at this
 case ref i=>
  dsimp only[cC]
  cases e:G.get i with
  |none=>exact RO.no
  |some o=>
   rw[r.has i o e]
   cases o<;>try exact RO.no
   case list xs=>
    simp only[O.mp]
    rcases n with c|d|h|j|n<;>try exact RO.no
    ·exact CX r e a
    ·exact CY r e a
    ·exact uQ r xs a
   case dict b=>
    simp only[O.mp]
    rcases n with c|d|h|j|k|n<;>try exact RO.no
    exact CZ r b a
noncomputable def HO(f:Nat->Nat)(g:Nat->Option O)(x y:Option Hp):Prop:=∀G,x=some G->∃U,y=some U/\Rel f g G U
theorem C0(r:Rel f g G U)(o i v:V):HO f g (fj G o i v) (fj U (o.mp f) (i.mp f) (v.mp f)):=by
 intro H h
 cases o<;>try(specialize h;done)
 rename_i d
 unfold fj at h⊢
 simp only[cC] at h⊢
 generalize e:G.get d=zz at h
 cases zz with
 |none=>ext h
 |some o=>
  rw[r.has d o e]
  cases o<;>try(specialize h;done)
  ·rename_i xs
   cases i<;>try(specialize h;done)
   simp only[O.mp,nr,List.length_map] at h⊢
   split at h
   ·rw[if_pos (by assumption)]
    ext h
    refine⟨_,rfl,?_⟩
    have:=r.set e (.list (xs.set (Int.toNat ‹Int›) v))
    rwa [O.mp,List.map_set] at this
   ·ext h
  ·rename_i s
   simp only[O.mp,List.length_map,nx,qt r] at h⊢
   split at h
   ·rw[if_pos (by assumption)]
    ext h
    exact⟨_,rfl,r.set e (.dict (dput i v s))⟩
   ·ext h
theorem qy(s:de T T')(r:Rel f g G U)(o:V)(n:Str)(v:V):HO f g (dQ T G o n v) (dQ T' U (o.mp f) n (v.mp f)):=by
 intro H h
 cases o<;>try(specialize h;done)
 rename_i i
 unfold dQ at h⊢
 simp only[cC] at h⊢
 generalize e:G.get i=zz at h
 cases zz with
 |none=>ext h
 |some o=>
  rw[r.has i o e]
  cases o<;>try(specialize h;done)
  rename_i C d
  simp only[O.mp] at h⊢
  rw[uJ s]
  by_cases q:eY T C n=true
  ·rw[if_pos q] at h⊢
   generalize a:G.get d=zz at h
   cases zz with
   |none=>ext h
   |some o=>
    rw[r.has d o a]
    cases o<;>try(specialize h;done)
    rename_i b
    have c:=qt r (.str n) v b
    simp only[nu] at c
    simp only[O.mp,List.length_map,c] at h⊢
    split at h
    ·rw[if_pos (by assumption)]
     ext h
     exact⟨_,rfl,r.set a (.dict (dput (.str n) v b))⟩
    ·ext h
  ·rw[if_neg q] at h;ext h
theorem C1(v:List V){x}(h:gG v=some x):gG (v.map (V.mp f))=some (x.mp f):=by
 cases su h<;>exact h
theorem uR(s:de T T')(r:Rel f g G U)(x:Src)(i:Nat){y}(h:cz T G x i=some y):cz T' U (x.mp f) i=some (y.map (V.mp f)):=by
 cases x with
 |lst l=>
  unfold cz at h⊢
  simp only[Src.mp] at h⊢
  generalize e:G.get l=zz at h
  cases zz with
  |none=>ext h
  |some o=>
   rw[r.has l o e]
   cases o<;>try(specialize h;done)
   simp only[O.mp,List.getElem?_map] at h⊢
   ext h;rfl
 |tup v=>
  unfold cz at h⊢
  cases v<;>try(specialize h;done)
  ·rename_i t
   simp only[Src.mp,fW] at h⊢
   rw[s.bO]
   generalize e:T.bO t=zz at h
   cases zz with
   |none=>ext h
   |some xs=>
    simp only at h⊢
    have:=V.jZ (f:=f) (s.st t xs e)
    ext h
    rw[←List.getElem?_map,this]
  ·rename_i l
   simp only[Src.mp,cC] at h⊢
   generalize e:G.get l=zz at h
   cases zz with
   |none=>ext h
   |some o=>
    rw[r.has l o e]
    cases o<;>try(specialize h;done)
    simp only[O.mp,List.getElem?_map] at h⊢
    ext h;rfl
 |cY a c n=>
  unfold cz at h⊢
  simp only[Src.mp] at h⊢
  ext h
  cases Nat.ble (Nat.succ i) n<;>rfl
theorem C2:∀(n:List (Str×NameKind)) {G U:Hp} (r:Rel f g G U) (cs:List (Str×Nat)),
 (gH n U (cm f cs)).2=cm f (gH n G cs).2/\Rel f g (gH n G cs).1 (gH n U (cm f cs)).1:=by
 intro n
 induction n with
 |nil=>intro G U r cs;exact⟨rfl,r⟩
 |cons p n i=>
  intro G U r cs
  obtain⟨x,k⟩:=p
  unfold gH
  cases k<;>try exact i r cs
  have:=i (r.push (.cell none)) ((x,G.length)::cs)
  simp only[cm,List.map_cons,r.len,O.mp,Option.map_none] at this⊢
  exact this
noncomputable def EO(f:Nat->Nat)(g:Nat->Option O)(x y:Option (En×Hp)):Prop:=∀Y G,x=some (Y,G)->∃U,y=some (Y.mp f,U)/\Rel f g G U
theorem j1(r:Rel f g G U)(Y:En)(x:Str)(v:V):EO f g (bZ Y G x v) (bZ (Y.mp f) U x (v.mp f)):=by
 intro en' H h
 rw[jd] at h⊢
 simp only[En.mp,nv,uC] at h⊢
 generalize e:lk x Y.sc=zz at h
 cases zz with
 |none=>ext h
 |some k=>
  cases k<;>try(specialize h;done)
  ·ext h;exact⟨U,rfl,r⟩
  ·simp only at h⊢
   generalize b:lk x Y.bF=zz at h
   cases zz with
   |none=>ext h
   |some i=>
    simp only[Option.map_some] at h⊢
    generalize a:G.get i=zz at h
    cases zz with
    |none=>ext h
    |some o=>
     rw[r.has i o a]
     cases o<;>try(specialize h;done)
     ext h
     exact⟨_,rfl,r.set a (.cell (some v))⟩
theorem uS(l:List (Str×V)){G U:Hp}(r:Rel f g G U)(Y:En):EO f g (cV l Y G) (cV (lm f l) (Y.mp f) U):=by
 induction l generalizing G U Y with
 |nil=>exactλen' H h=>by ext h;exact⟨U,rfl,r⟩
 |cons p l i=>
  intro en' H h
  obtain⟨x,v⟩:=p
  simp only[lm,List.map_cons]
  unfold cV at h⊢
  cases e:bZ Y G x v with
  |none=>rw[e] at h;ext h
  |some p=>
   obtain⟨n,A⟩:=p
   rw[e] at h
   obtain⟨c,a,b⟩:=j1 r Y x v n A e
   rw[a]
   exact i b n en' H h
theorem C3(Y:En)(s:Scope):i6 (Y.mp f) s=i6 Y s:=by
 unfold i6
 simp only[En.mp,nv,Option.isSome_map]
theorem C4(r:Rel f g G U)(v:V)(k:Int):RO f g (V.mp f) (gZ v k G) (gZ (v.mp f) k U):=by
 unfold gZ
 cases v<;>try exact RO.no
 rename_i i
 dsimp only[cC]
 cases e:G.get i with
 |none=>exact RO.no
 |some o=>
  rw[r.has i o e]
  cases o<;>try exact RO.no
  simp only[O.mp,List.length_map]
  exact RO.ite (RO.new r (by rw[O.mp,List.map_drop]))
theorem C5(s:de T T')(r:Rel f g G U)(v:V)(k:Int):RO f g (V.mp f) (iz T v k G) (iz T' (v.mp f) k U):=by
 unfold iz
 cases v<;>try exact RO.no
 ·rw[s.arg];exact RO.no
 rename_i i
 dsimp only[cC]
 cases e:G.get i with
 |none=>exact RO.no
 |some o=>
  rw[r.has i o e]
  cases o<;>try exact RO.no
  simp only[O.mp,List.length_map]
  exact RO.ite (RO.new r (by rw[O.mp,List.map_take]))
theorem C6(r:Rel f g G U)(v:V):RO f g (V.mp f) (g9 v G) (g9 (v.mp f) U):=by
 unfold g9
 cases v<;>try exact RO.no
 rename_i i
 dsimp only[cC]
 cases e:G.get i with
 |none=>exact RO.no
 |some o=>
  rw[r.has i o e]
  cases o<;>try exact RO.no
  simp only[O.mp,List.length_map]
  exact RO.ite (RO.new r (by rw[O.mp,List.map_reverse]))
theorem C7(s:de T T')(r:Rel f g G U){C d:Nat}{a:Str}{x}(h:dZ T C d a G=some x):dZ T' C (f d) a U=some x:=by
 unfold dZ at h⊢
 generalize e:G.get d=zz at h
 cases zz with
 |none=>ext h
 |some o=>
  rw[r.has d o e]
  cases o<;>try(specialize h;done)
  simp only[O.mp] at h⊢
  rw[s.cls]
  generalize c:T.cls C=zz at h
  cases zz with
  |none=>ext h
  |some k=>
   simp only at h⊢
   generalize i:lk a k.meths=zz at h
   cases zz with
   |none=>ext h
   |some m=>
    simp only[uD r] at h⊢
    rename_i b
    generalize j:cb (.str a) b=zz at h
    cases zz with
    |none=>exact h
    |some y=>ext h
theorem C8(s:de T T')(Y:En):kR T' (Y.mp f)=kR T Y:=by
 unfold kR
 simp only[En.mp,qw (s:=s)]
theorem C9(s:de T T')(r:Rel f g G U)(v:V):RO f g (Src.mp f) (srcOf T G v) (srcOf T' U (v.mp f)):=by
 unfold srcOf
 cases v<;>try exact RO.no
 ·rename_i t
  simp only[fW]
  rw[s.bO]
  cases T.bO t with
  |none=>exact RO.no
  |some xs=>exact RO.eA r rfl
 ·rename_i i
  dsimp only[cC]
  cases e:G.get i with
  |none=>exact RO.no
  |some o=>
   rw[r.has i o e]
   cases o<;>first|exact RO.no|exact RO.eA r rfl
theorem C_(s:de T T')(v:V):callable T' (v.mp f)=callable T v:=by
 unfold callable
 cases v<;>try rfl
 simp only[fW,s.fn,s.cls]
theorem Dc(s:de T T')(Y:En)(c):kU T' (Y.mp f) c=kU T Y c:=by
 unfold kU jM
 simp only[En.mp,qw (s:=s),s.cH]
theorem uT(s:de T T')(Y:En)(c):fR T' (Y.mp f) c=fR T Y c:=by
 unfold fR jM
 simp only[En.mp,qw (s:=s),s.cH,s.base]
theorem Dd(Y:En)(xs):ja (Y.mp f) xs=ja Y xs:=rfl
structure nA(f:Nat->Nat)(g:Nat->Option O)(F F':Fs):Prop where
 ev:∀Y e G U,Rel f g G U->RO f g (V.mp f) (F.ev Y e G) (F'.ev (Y.mp f) e U)
 bL:∀Y e G U,Rel f g G U->RO f g (List.map (V.mp f)) (F.bL Y e G) (F'.bL (Y.mp f) e U)
 fk:∀Y o e G U,Rel f g G U->RO f g (V.mp f) (F.fk Y o e G) (F'.fk (Y.mp f) o e U)
 tests:∀Y e G U,Rel f g G U->RO f g id (F.tests Y e G) (F'.tests (Y.mp f) e U)
 comp:∀Y e x ifs xs i I G U,Rel f g G U->RO f g (List.map (V.mp f)) (F.comp Y e x ifs xs i I G) (F'.comp (Y.mp f) e x ifs (xs.mp f) i (I.map (V.mp f)) U)
 dJ:∀v as G U,Rel f g G U->RO f g (V.mp f) (F.dJ v as G) (F'.dJ (v.mp f) (as.map (V.mp f)) U)
 call:∀a as G U,Rel f g G U->RO f g (V.mp f) (F.call a as G) (F'.call a (as.map (V.mp f)) U)
 ex:∀Y s G U,Rel f g G U->bI f g (F.ex Y s G) (F'.ex (Y.mp f) s U)
 ax:∀Y s G U,Rel f g G U->bI f g (F.ax Y s G) (F'.ax (Y.mp f) s U)
 cA:∀Y t b G U,Rel f g G U->bI f g (F.cA Y t b G) (F'.cA (Y.mp f) t b U)
 fr:∀Y x b xs i G U,Rel f g G U->bI f g (F.fr Y x b xs i G) (F'.fr (Y.mp f) x b (xs.mp f) i U)
variable{F F':Fs}
theorem RO.bd{b c:Type}{mp:b->b}{m:c->c}{x y:Option (R b)}{k d:b->Hp->Option (R c)}(h:RO f g mp x y)(i:∀a G U,Rel f g G U->RO f g m (k a G) (d (mp a) U)):RO f g m (bd x k) (bd y d):=by
 cases x with
 |none=>exact RO.no
 |some x=>cases x with
  |ok a G=>obtain⟨U,e,r⟩:=h;rw[e];exact i a G U r
  |exc G=>obtain⟨U,e,r⟩:=h;rw[e];exact⟨U,rfl,r⟩
theorem RO.lift{b:Type}{mp:b->b}{x y:Option (R b)}{Y:En}{k c:b->Hp->Option RS}(h:RO f g mp x y)(d:∀a G U,Rel f g G U->bI f g (k a G) (c (mp a) U)):bI f g (lift Y x k) (lift (Y.mp f) y c):=by
 cases x with
 |none=>exact bI.no
 |some x=>cases x with
  |ok a G=>obtain⟨U,e,r⟩:=h;rw[e];exact d a G U r
  |exc G=>obtain⟨U,e,r⟩:=h;rw[e];exact⟨U,rfl,r⟩
theorem RO.bX{a:Type}{mp:a->a}{x y d e:Option (R a)}{c:Option Bool}(h:RO f g mp x d)(i:RO f g mp y e):RO f g mp (bX c x y) (bX c d e):=by
 cases c with
 |none=>exact RO.no
 |some b=>cases b<;>assumption
theorem bI.bX{x y a d:Option RS}{c:Option Bool}(h:bI f g x a)(e:bI f g y d):bI f g (bX c x y) (bX c a d):=by
 cases c with
 |none=>exact bI.no
 |some b=>cases b<;>assumption
theorem RO.map{x y:Option V}(r:Rel f g G U)(h:∀v,x=some v->y=some (v.mp f)):RO f g (V.mp f) (x.map λv=>R.ok v G) (y.map λv=>R.ok v U):=by
 cases x with
 |none=>exact RO.no
 |some v=>rw[h v rfl];exact RO.ok r
theorem RO.qz{x y:Option Bool}{k:Bool->Bool}(r:Rel f g G U)(h:∀v,x=some v->y=some v):RO f g (V.mp f) (x.map λv=>R.ok (.bool (k v)) G) (y.map λv=>R.ok (.bool (k v)) U):=by
 cases x with
 |none=>exact RO.no
 |some v=>rw[h v rfl];exact RO.eA r rfl
theorem bI.ok{l:Fl}{Q}(r:Rel f g G U):bI f g (some (.ok l Q G)) (some (.ok (l.mp f) (lm f Q) U)):=⟨U,rfl,r⟩
theorem bI.exc{Q}(r:Rel f g G U):bI f g (some (.exc Q G)) (some (.exc (lm f Q) U)):=⟨U,rfl,r⟩
theorem bI.ite{c:Prop} [Decidable c]{x y:Option RS}(h:bI f g x y):bI f g (if c then x else none) (if c then y else none):=by
 split
 ·exact h
 ·exact bI.no
variable(s:de T T')(h:nA f g F F')
include s h
theorem uU(r:Rel f g G U)(Y e):RO f g (Src.mp f) (items T F Y e G) (items T' F' (Y.mp f) e U):=by
 unfold items
 rw[C8 s]
 split
 ·refine RO.ite ((h.bL _ _ _ _ r).bd λa G U r=>?_)
  cases e:gG a with
  |none=>exact RO.no
  |some x=>rw[C1 a e];exact RO.ok r
 ·exact(h.ev _ _ _ _ r).bd λv G U r=>C9 s r v
theorem uV(r:Rel f g G U)(Y elt x it ifs sc):RO f g (V.mp f) (gI T F Y elt x it ifs sc G) (gI T' F' (Y.mp f) elt x it ifs sc U):=by
 unfold gI
 rw[C3]
 refine RO.ite ((uU s h r Y it).bd λxs G U r=>(h.comp ⟨bM Y sc,[],Y.bF⟩ elt x ifs xs 0 [] G U r).bd λv G U r=>?_)
 exact RO.new r (by rw[O.mp,List.map_reverse])
theorem De(r:Rel f g G U)(Y v a as):RO f g (V.mp f) (fQ T F Y v a as G) (fQ T' F' (Y.mp f) (v.mp f) a as U):=by
 unfold fQ
 cases v<;>try exact RO.no
 ·rename_i t
  simp only[fW]
  rw[s.bO]
  cases T.bO t with
  |none=>exact RO.no
  |some xs=>
   simp only
   split
   ·exact(h.bL _ _ _ _ r).bd λb G U r=>lK s r _ _ _
   ·exact RO.no
 ·rename_i i
  dsimp only[cC]
  cases e:G.get i with
  |none=>exact RO.no
  |some o=>
   rw[r.has i o e]
   cases o<;>try exact RO.no
   ·rename_i C d
    simp only[O.mp]
    cases e:dZ T C d a G with
    |none=>exact RO.no
    |some m=>
     rw[C7 s r e]
     exact(h.bL _ _ _ _ r).bd λb G U r=>h.call m (.ref i::b) G U r
   ·simp only[O.mp]
    split
    ·exact(h.bL _ _ _ _ r).bd λb G U r=>lK s r (.ref i) _ _
    ·exact(h.bL _ _ _ _ r).bd λb G U r=>lK s r (.ref i) _ _
    ·exact(h.bL _ _ _ _ r).bd λb G U r=>lK s r (.ref i) _ _
    ·exact RO.no
   ·simp only[O.mp]
    split
    ·exact(h.bL _ _ _ _ r).bd λb G U r=>lK s r (.ref i) _ _
    ·exact RO.no
theorem Df(r:Rel f g G U)(Y e):RO f g (V.mp f) (pd T F Y e G) (pd T' F' (Y.mp f) e U):=by
 show RO f g (V.mp f) (mq T F Y (shape e) G) (mq T' F' (Y.mp f) (shape e) U)
 cases shape e with
 |const c=>exact RO.map r λv e=>by rw[CN c e,e]
 |name x=>exact RO.map r λv e=>uI s r e
 |bool p d=>exact h.fk _ _ _ _ _ r
 |bin l p m=>exact(h.ev _ _ _ _ r).bd λa G U r=>(h.ev _ _ _ _ r).bd λb G U r=>CJ s r p a b
 |not x=>exact(h.ev _ _ _ _ r).bd λa G U r=>by rw[jn];exact RO.qz r λv e=>e
 |neg k=>exact RO.eA r rfl
 |fO t b o=>exact(h.ev _ _ _ _ r).bd λa G U r=>by rw[jn];exact(h.ev _ _ _ _ r).bX (h.ev _ _ _ _ r)
 |iy=>exact RO.new r rfl
 |list n=>exact(h.bL _ _ _ _ r).bd λd G U r=>by rw[List.length_map];exact RO.ite (RO.new r rfl)
 |tup n=>exact(h.bL _ _ _ _ r).bd λd G U r=>by rw[List.length_map,List.isEmpty_map];exact RO.ite (RO.new r rfl)
 |cmp l p m=>exact(h.ev _ _ _ _ r).bd λa G U r=>(h.ev _ _ _ _ r).bd λb G U r=>RO.qz (k:=id) r λv e=>qx s r e
 |i7 l p m u z=>
  refine(h.ev _ _ _ _ r).bd λa G U r=>(h.ev _ _ _ _ r).bd λb G U r=>?_
  cases e:cmp T G p a b with
  |none=>exact RO.no
  |some x=>
   rw[qx s r e]
   exact((h.ev _ _ _ _ r).bd λc G U r=>RO.qz (k:=id) r λv e=>qx s r e).bX (RO.eA r rfl)
 |attr o a=>exact(h.ev _ _ _ _ r).bd λv G U r=>RO.map r λv e=>uK s r e
 |«from» o k=>exact(h.ev _ _ _ _ r).bd λv G U r=>C4 r v k
 |jG o k=>exact(h.ev _ _ _ _ r).bd λv G U r=>C5 s r v k
 |rev o=>exact(h.ev _ _ _ _ r).bd λv G U r=>C6 r v
 |sub o i=>exact(h.ev _ _ _ _ r).bd λv G U r=>(h.ev _ _ _ _ r).bd λk G U r=>RO.map r λv e=>CM s r e
 |fm o a j=>exact(h.ev _ _ _ _ r).bd λv G U r=>De s h r Y v a j
 |call y j=>exact(h.ev _ _ _ _ r).bd λv G U r=>by rw[C_ s];exact RO.ite ((h.bL _ _ _ _ r).bd λd G U r=>h.dJ _ _ _ _ r)
 |lc elt x q ifs w=>exact uV s h r Y elt x q ifs w
 |no=>exact RO.no
omit s in
theorem Dg(r:Rel f g G U)(Y s):RO f g (List.map (V.mp f)) (kT T F Y s G) (kT T' F' (Y.mp f) s U):=by
 unfold kT
 cases s with
 |nil=>exact RO.eA r rfl
 |cons e s=>exact(h.ev _ _ _ _ r).bd λv G U r=>(h.bL _ _ _ _ r).bd λa G U r=>RO.eA r rfl
omit s in
theorem Dh(r:Rel f g G U)(Y op s):RO f g (V.mp f) (iA T F Y op s G) (iA T' F' (Y.mp f) op s U):=by
 unfold iA
 rcases s with c|⟨e,d|⟨a,s⟩⟩
 ·exact RO.no
 ·refine(h.ev _ _ _ _ r).bd λv G U r=>?_
  rw[jn]
  cases truth v with
  |none=>exact RO.no
  |some b=>exact RO.ok r
 ·refine(h.ev _ _ _ _ r).bd λv G U r=>?_
  rw[jn]
  ext op
  ·exact(h.fk _ _ _ _ _ r).bX (RO.ok r)
  ·exact(RO.ok r:RO f g (V.mp f) (some (.ok v G)) (some (.ok (v.mp f) U))).bX (h.fk _ _ _ _ _ r)
omit s in
theorem Di(r:Rel f g G U)(Y s):RO f g id (jK T F Y s G) (jK T' F' (Y.mp f) s U):=by
 unfold jK
 rcases s with c|⟨e,d|⟨a,s⟩⟩
 ·exact RO.eA r rfl
 ·refine(h.ev _ _ _ _ r).bd λv G U r=>?_
  rw[jn]
  cases truth v with
  |none=>exact RO.no
  |some b=>exact RO.eA r rfl
 ·exact RO.no
omit s in
theorem Dj(r:Rel f g G U)(Y elt x ifs xs i I b):RO f g (List.map (V.mp f)) (i_ F Y elt x ifs xs i I b G) (i_ F' (Y.mp f) elt x ifs (xs.mp f) i (I.map (V.mp f)) b U):=by
 cases b with
 |false=>exact h.comp Y elt x ifs xs (i+1) I G U r
 |true=>
  unfold i_
  simp only[List.length_map]
  exact RO.ite ((h.ev _ _ _ _ r).bd λy G U r=>h.comp Y elt x ifs xs (i+1) (y::I) G U r)
theorem Dk(r:Rel f g G U)(Y elt x ifs xs i I):RO f g (List.map (V.mp f)) (gJ T F Y elt x ifs xs i I G) (gJ T' F' (Y.mp f) elt x ifs (xs.mp f) i (I.map (V.mp f)) U):=by
 unfold gJ
 cases e:cz T G xs i with
 |none=>exact RO.no
 |some y=>
  rw[uR s r xs i e]
  cases y with
  |none=>exact RO.ok r
  |some v=>
   show RO f g _ ((bZ Y G x v).bind _) ((bZ (Y.mp f) U x (v.mp f)).bind _)
   cases a:bZ Y G x v with
   |none=>exact RO.no
   |some p=>
    obtain⟨n,A⟩:=p
    obtain⟨j,c,d⟩:=j1 r Y x v n A a
    rw[c]
    exact(h.tests _ _ _ _ d).bd λb G U r=>Dj h r n elt x ifs xs i I b
theorem Dl(r:Rel f g G U)(v as):RO f g (V.mp f) (jL T F v as G) (jL T' F' (v.mp f) (as.map (V.mp f)) U):=by
 unfold jL
 cases v<;>try exact CW s r _ as
 rename_i a
 simp only[fW]
 rw[s.cls]
 cases T.cls a with
 |none=>exact h.call _ _ _ _ r
 |some c=>
  have e:=(r.push (.dict [])).push (.inst a G.length)
  simp only[O.mp,List.map_nil,r.len] at e
  have b:=h.call c.init (.ref (G.length+1)::as) _ _ e
  rw[List.map_cons,cC,r.sh 1] at b
  refine RO.bd b λx H i d=>?_
  rw[show cM (x.mp f) .none=cM x .none from qs d x .none]
  exact RO.ite (RO.eA d (by rw[cC,r.sh 1]))
omit s h in
theorem uW{x y:Option RS}(h:bI f g x y):RO f g (V.mp f) (callEnd x) (callEnd y):=by
 cases x with
 |none=>exact RO.no
 |some x=>cases x with
  |ok l Q G=>
   obtain⟨U,e,r⟩:=h
   rw[e]
   cases l<;>first|exact RO.no|exact RO.eA r rfl
  |exc Q G=>obtain⟨U,e,r⟩:=h;rw[e];exact⟨U,rfl,r⟩
omit s in
theorem Dm(r:Rel f g G U)(a:Fn)(q:a.dflt.all V.gq=true)(as):RO f g (V.mp f) (iB F a as G) (iB F' a (as.map (V.mp f)) U):=by
 unfold iB
 rw[List.length_map]
 refine RO.ite ?_
 obtain⟨b,c⟩:=C2 a.sc.names r []
 cases j:gH a.sc.names G [] with
 |mk A cs=>
 cases l:gH a.sc.names U [] with
 |mk w i=>
 rw[show cm f []=[] from rfl,j,l] at b c
 simp only at b c⊢
 subst b
 have o:∀n,(a.dflt.drop n).map (V.mp f)=a.dflt.drop n:=λn=>by rw[List.map_drop,V.jZ q]
 have z:∀(ps:List Str) (s:List V),ps.zip (s.map (V.mp f))=lm f (ps.zip s):=by
  intro ps
  induction ps with
  |nil=>intro s;rfl
  |cons p ps t=>
   intro s
   cases s with
   |nil=>rfl
   |cons v s=>
    rw[List.map_cons,List.zip_cons_cons,List.zip_cons_cons,t];rfl
 have k:=uS (a.ps.zip (as++a.dflt.drop (a.dflt.length-(a.ps.length-as.length)))) c ⟨a.sc.names,[],cs⟩
 rw[←z,List.map_append,o] at k
 show RO f g (V.mp f) (match cV _ _ _ with|some (Y,G)=>callEnd (F.ax Y a.body G)|.none=>.none) (match cV _ (En.mp f ⟨a.sc.names,[],cs⟩) _ with|some (Y,G)=>callEnd (F'.ax Y a.body G)|.none=>.none)
 cases e:cV (a.ps.zip (as++a.dflt.drop (a.dflt.length-(a.ps.length-as.length)))) ⟨a.sc.names,[],cs⟩ A with
 |none=>exact RO.no
 |some p=>
  obtain⟨Y,d⟩:=p
  obtain⟨x,m,u⟩:=k Y d e
  rw[m]
  exact uW (h.ax _ _ _ _ u)
theorem Dn(r:Rel f g G U)(a as):RO f g (V.mp f) (iC T F a as G) (iC T' F' a (as.map (V.mp f)) U):=by
 unfold iC
 rw[s.fn]
 cases e:T.fn a with
 |none=>exact RO.no
 |some n=>exact Dm h r n (s.sf a n e) as
omit s h in
theorem nB{x y:Option (En×Hp)}(h:EO f g x y):bI f g (dz x) (dz y):=by
 cases x with
 |none=>exact bI.no
 |some p=>obtain⟨Y,G⟩:=p;obtain⟨U,e,r⟩:=h Y G rfl;rw[e];exact⟨U,rfl,r⟩
omit s h in
theorem uX{x y:Option Hp}(Y:En)(h:HO f g x y):bI f g (d0 Y x) (d0 (Y.mp f) y):=by
 cases x with
 |none=>exact bI.no
 |some G=>obtain⟨U,e,r⟩:=h G rfl;rw[e];exact⟨U,rfl,r⟩
omit s h in
theorem Dp(r:Rel f g G U)(Y xs v):bI f g (fc Y xs v G) (fc (Y.mp f) xs (v.mp f) U):=by
 unfold fc
 cases v<;>try exact bI.no
 rename_i i
 dsimp only[cC]
 cases e:G.get i with
 |none=>exact bI.no
 |some o=>
  rw[r.has i o e]
  cases o<;>try exact bI.no
  rename_i s
  simp only[O.mp,List.length_map]
  refine bI.ite (nB ?_)
  have:=uS (xs.zip s) r Y
  have h:∀(ps:List Str) (s:List V),ps.zip (s.map (V.mp f))=lm f (ps.zip s):=by
   intro ps
   induction ps with
   |nil=>intro s;rfl
   |cons p ps a=>
    intro s
    cases s with
    |nil=>rfl
    |cons v s=>rw[List.map_cons,List.zip_cons_cons,List.zip_cons_cons,a];rfl
  rwa [←h] at this
omit h in
theorem Dq{x y:Option RS}(Y c n)(h:bI f g x y):bI f g (iD T Y c n x) (iD T' (Y.mp f) c n y):=by
 cases x with
 |none=>exact bI.no
 |some x=>cases x with
  |ok l Q G=>obtain⟨U,e,r⟩:=h;rw[e];exact⟨U,rfl,r⟩
  |exc Q G=>
   obtain⟨U,e,r⟩:=h;rw[e]
   unfold iD
   simp only[uT s]
   refine bI.ite (nB ?_)
   exact j1 r ⟨Y.sc,Q,Y.bF⟩ n .none
omit h in
theorem Dr{x y:Option RS}(Y c o a1 a2 a n)(h:bI f g x y):bI f g (g_ T Y c o a1 a2 a n x) (g_ T' (Y.mp f) c o a1 a2 a n y):=by
 cases x with
 |none=>exact bI.no
 |some x=>cases x with
  |ok C Q G=>obtain⟨U,e,r⟩:=h;rw[e];exact⟨U,rfl,r⟩
  |exc Q G=>
   obtain⟨U,e,r⟩:=h;rw[e]
   unfold g_
   simp only[uT s,Dd,qr,Option.isNone_map]
   have i:∀q v,name T ⟨Y.sc,Q,Y.bF⟩ G q=some v->name T' ⟨(Y.mp f).sc,lm f Q,(Y.mp f).bF⟩ U q=some (v.mp f):=λq v u=>uI (Y:=⟨Y.sc,Q,Y.bF⟩) s r u
   cases k:name T ⟨Y.sc,Q,Y.bF⟩ G a with
   |none=>exact bI.no
   |some j=>
    rw[i _ _ k]
    simp only
    cases l:name T ⟨Y.sc,Q,Y.bF⟩ G o with
    |none=>exact bI.no
    |some w=>
     rw[i _ _ l]
     simp only
     cases m:dq T G w a1 with
     |none=>exact bI.no
     |some d=>
      rw[uK s r m]
      simp only
      cases p:dQ T G d a2 j with
      |none=>exact bI.no
      |some b=>
       obtain⟨B,t,z⟩:=qy s r d a2 j b p
       rw[t]
       exact bI.ite (bI.exc z)
theorem Ds(r:Rel f g G U)(Y st):bI f g (pf T F Y st G) (pf T' F' (Y.mp f) st U):=by
 show bI f g (kW T F Y (gY st) G) (kW T' F' (Y.mp f) (gY st) U)
 cases gY st with
 |expr e=>exact(h.ev _ _ _ _ r).lift λv G U r=>by rw[uH];exact bI.ite (bI.ok r)
 |pass=>exact bI.ok r
 |ret e=>exact(h.ev _ _ _ _ r).lift λv G U r=>bI.ok r
 |kI x e=>exact(h.ev _ _ _ _ r).lift λv G U r=>nB (j1 r Y x v)
 |jH x elt y d ifs p=>exact bI.ite ((uV s h r Y elt y d ifs p).lift λv G U r=>nB (j1 r Y x v))
 |jI o a e=>exact(h.ev _ _ _ _ r).lift λv G U r=>(h.ev _ _ _ _ r).lift λj G U r=>uX Y (qy s r j a v)
 |jJ o i e=>exact(h.ev _ _ _ _ r).lift λv G U r=>(h.ev _ _ _ _ r).lift λj G U r=>(h.ev _ _ _ _ r).lift λm G U r=>uX Y (C0 r j m v)
 |i8 xs e=>exact(h.ev _ _ _ _ r).lift λv G U r=>Dp r Y xs v
 |fO t b o=>exact(h.ev _ _ _ _ r).lift λv G U r=>by rw[jn];exact(h.ax _ _ _ _ r).bX (h.ax _ _ _ _ r)
 |cA t b=>exact h.cA _ _ _ _ _ r
 |«for» x d b=>exact(uU s h r Y d).lift λxs G U r=>h.fr _ _ _ _ _ _ _ r
 |raise c q=>
  unfold kW r_
  simp only[Dc s]
  exact bI.ite ((h.bL _ _ _ _ r).lift λu G U r=>by rw[List.length_map];exact bI.ite (bI.exc r))
 |kJ b c x=>exact Dq s Y c x (h.ax _ _ _ _ r)
 |kK b c o k l y n=>exact Dr s Y c o k l y n (h.ax _ _ _ _ r)
 |no=>exact bI.no
omit s in
theorem Du(r:Rel f g G U)(Y s):bI f g (mv T F Y s G) (mv T' F' (Y.mp f) s U):=by
 cases s with
 |nil=>exact bI.ok r
 |cons t s=>
  refine(?_:bI f g (hG (F.ex Y t G) λl Q G=>mu l Q G (F.ax ⟨Y.sc,Q,Y.bF⟩ s G)) (hG (F'.ex (Y.mp f) t U) λl Q G=>mu l Q G (F'.ax ⟨Y.sc,Q,(Y.mp f).bF⟩ s G)))
  have d:=h.ex Y t G U r
  cases e:F.ex Y t G with
  |none=>exact bI.no
  |some x=>
   rw[e] at d
   cases x with
   |ok l Q A=>
    obtain⟨a,c,b⟩:=d
    rw[c]
    cases l<;>first|exact⟨a,rfl,b⟩|exact h.ax ⟨Y.sc,Q,Y.bF⟩ s A a b
   |exc Q A=>obtain⟨a,c,b⟩:=d;rw[c];exact⟨a,rfl,b⟩
omit s h in
theorem uY{x y:Option RS}{a o:List (Str×V)->Hp->Option RS}(h:bI f g x y)(b:∀Q G U,Rel f g G U->bI f g (a Q G) (o (lm f Q) U)):bI f g (dS x a) (dS y o):=by
 cases x with
 |none=>exact bI.no
 |some x=>cases x with
  |ok l Q G=>
   obtain⟨U,e,r⟩:=h;rw[e]
   cases l<;>first|exact⟨U,rfl,r⟩|exact b Q G U r
  |exc Q G=>obtain⟨U,e,r⟩:=h;rw[e];exact⟨U,rfl,r⟩
omit s in
theorem Dv(r:Rel f g G U)(Y t b):bI f g (mw T F Y t b G) (mw T' F' (Y.mp f) t b U):=by
 unfold mw
 refine(h.ev _ _ _ _ r).lift λv G U r=>?_
 rw[jn]
 exact(uY (h.ax _ _ _ _ r) λQ G U r=>h.cA ⟨Y.sc,Q,Y.bF⟩ t b G U r).bX (bI.ok r)
theorem Dw(r:Rel f g G U)(Y x b xs i):bI f g (iE T F Y x b xs i G) (iE T' F' (Y.mp f) x b (xs.mp f) i U):=by
 unfold iE
 cases e:cz T G xs i with
 |none=>exact bI.no
 |some y=>
  rw[uR s r xs i e]
  cases y with
  |none=>exact bI.ok r
  |some v=>
   simp only[Option.map_some]
   cases a:bZ Y G x v with
   |none=>exact bI.no
   |some p=>
    obtain⟨n,A⟩:=p
    obtain⟨j,c,d⟩:=j1 r Y x v n A a
    rw[c]
    exact uY (h.ax _ _ _ _ d) λQ G U r=>h.fr ⟨n.sc,Q,n.bF⟩ x b xs (i+1) G U r
theorem Dx:nA f g (up T F) (up T' F'):=
 ⟨λa b c d r=>Df s h r _ _,λa b c d r=>Dg (T:=T) (T':=T') h r _ _,λa b c d e r=>Dh (T:=T) (T':=T') h r _ _ _,λa b c d r=>Di (T:=T) (T':=T') h r _ _,λa b c d e i j k l r=>Dk s h r _ _ _ _ _ _ _,λa b c d r=>Dl s h r _ _,λa b c d r=>Dn s h r _ _,λa b c d r=>Ds s h r _ _,λa b c d r=>Du (T:=T) (T':=T') h r _ _,λa b c d e r=>Dv (T:=T) (T':=T') h r _ _ _,λa b c d e i j r=>Dw s h r _ _ _ _ _⟩
end
theorem Dy{f g}(F':Fs):nA f g bot F':=
 ⟨λa b c d e=>RO.no,λa b c d e=>RO.no,λa b c d e h=>RO.no,λa b c d e=>RO.no,λa b c d e h i j k l=>RO.no,λa b c d e=>RO.no,λa b c d e=>RO.no,λa b c d e=>bI.no,λa b c d e=>bI.no,λa b c d e h=>bI.no,λa b c d e h i j=>bI.no⟩
theorem nE{f g T T'}(s:de T T'):∀{n m:Nat},n<=m->nA f g (run T n) (run T' m)
 |0,m,_=>Dy _
 |n+1,0,h=>absurd h (Nat.not_succ_le_zero _)
 |n+1,m+1,h=>Dx s (nE s (Nat.le_of_succ_le_succ h))
def hZ(G:Hp):Option O->Hp
 |some o=>G.push o
 |none=>match G with|⟨n,t⟩=>⟨Nat.succ n,t⟩
def cJ(E:List (Option O)):Hp:=E.foldl hZ ⟨0,.e⟩
theorem uZ(E:List (Option O))(G:Hp)(h:∀j,G.length<=j->G.t.get (j+1) j=none):
 (E.foldl hZ G).length=G.length+E.length/\(∀j,(E.foldl hZ G).length<=j->(E.foldl hZ G).t.get (j+1) j=none)/\
 ∀i,(E.foldl hZ G).get i=if i<G.length then G.get i else(E[i-G.length]?).join:=by
 induction E generalizing G with
 |nil=>
  refine⟨rfl,h,λi=>?_⟩
  show G.get i=_
  split
  ·rfl
  ·rename_i q;rw[Hp.get_eq,if_neg q];simp
 |cons o E d=>
  obtain⟨n,t⟩:=G
  cases o with
  |none=>
   obtain⟨a,b,c⟩:=d ⟨n+1,t⟩ (λj q=>h j (Nat.le_of_succ_le q))
   show(E.foldl hZ ⟨n+1,t⟩).length=_/\_/\∀i,(E.foldl hZ ⟨n+1,t⟩).get i=_
   refine⟨by rw[a,List.length_cons];dsimp only;lia,b,λi=>?_⟩
   rw[c]
   dsimp only at h⊢
   by_cases q:i<n
   ·rw[if_pos (by omega),if_pos q,Hp.get_eq,Hp.get_eq];dsimp only;rw[if_pos (by omega),if_pos q]
   ·rw[if_neg q]
    by_cases e:i=n
    ·subst e;rw[if_pos (by lia),Hp.get_eq];dsimp only;rw[if_pos (by lia),h i (by omega),Nat.sub_self];rfl
    ·rw[if_neg (by lia),show i-n=(i-(n+1))+1 from(Nat.sub_add_cancel (Nat.sub_pos_of_lt (Nat.lt_of_le_of_ne (Nat.not_lt.mp q) (Ne.symm e)))).symm];rfl
  |some o=>
   obtain⟨a,b,c⟩:=d (Hp.push ⟨n,t⟩ o) (λj q=>by
    rw[Hp.length_push] at q
    show HT.get (j+1) j (t.put o (n+1) n)=_
    dsimp only at h q
    rw[HT.mD o _ _ _ _ _ (by lia) (by lia),if_neg (by lia)]
    exact h j (by lia))
   show(E.foldl hZ (Hp.push ⟨n,t⟩ o)).length=_/\_/\∀i,(E.foldl hZ (Hp.push ⟨n,t⟩ o)).get i=_
   refine⟨by rw[a,List.length_cons,Hp.length_push];dsimp only;lia,b,λi=>?_⟩
   rw[c,Hp.hJ,Hp.length_push]
   dsimp only
   by_cases q:i<n
   ·rw[if_pos (by omega),if_neg (by omega),if_pos q]
   ·rw[if_neg q]
    by_cases e:i=n
    ·subst e;rw[if_pos (by lia),if_pos rfl,Nat.sub_self];rfl
    ·rw[if_neg (by lia),show i-n=(i-(n+1))+1 from(Nat.sub_add_cancel (Nat.sub_pos_of_lt (Nat.lt_of_le_of_ne (Nat.not_lt.mp q) (Ne.symm e)))).symm];rfl
theorem qA(E:List (Option O)):(cJ E).length=E.length:=by
 have:=(uZ E ⟨0,.e⟩ (λj a=>HT.pn _ _)).1
 unfold cJ;rw[this];simp
theorem u1(E:List (Option O))(i:Nat):(cJ E).get i=(E[i]?).join:=by
 have:=(uZ E ⟨0,.e⟩ (λj a=>HT.pn _ _)).2.2 i
 unfold cJ;rw[this];simp
noncomputable def V.al(p:Nat->Bool):V->Bool
 |.ref i=>p i
 |_=>true
def O.al(p:Nat->Bool):O->Bool
 |.inst a d=>p d
 |.list xs=>xs.all (V.al p)
 |.tup xs=>xs.all (V.al p)
 |.dict s=>s.all λe=>e.1.al p&&e.2.al p
 |.cell (some v)=>v.al p
 |.cell .none=>true
theorem V.dM{p:Nat->Bool}{f g:Nat->Nat}(h:∀i,p i=true->f i=g i){v:V}(q:v.al p=true):v.mp f=v.mp g:=by
 cases v<;>first|rfl|(show V.ref _=V.ref _;rw[h _ q])
theorem Vs.dM{p:Nat->Bool}{f g:Nat->Nat}(h:∀i,p i=true->f i=g i){l:List V}(q:l.all (V.al p)=true):l.map (V.mp f)=l.map (V.mp g):=
 List.map_congr_left λv a=>V.dM h (List.all_eq_true.mp q v a)
theorem O.dM{p:Nat->Bool}{f g:Nat->Nat}(h:∀i,p i=true->f i=g i){o:O}(q:o.al p=true):o.mp f=o.mp g:=by
 cases o with
 |inst C d=>show O.inst _ _=O.inst _ _;rw[h _ q]
 |list xs=>show O.list _=O.list _;rw[Vs.dM h q]
 |tup xs=>show O.tup _=O.tup _;rw[Vs.dM h q]
 |dict s=>
  show O.dict _=O.dict _
  congr 1
  refine List.map_congr_left λe a=>?_
  have:=List.all_eq_true.mp q e a
  rw[Bool.and_eq_true] at this
  unfold em
  rw[V.dM h this.1,V.dM h this.2]
 |cell v=>
  cases v with
  |none=>rfl
  |some v=>show O.cell (some _)=O.cell (some _);rw[V.dM h q]
theorem V.iK(f g:Nat->Nat)(v:V):(v.mp g).mp f=v.mp (λi=>f (g i)):=by cases v<;>rfl
theorem O.iK(f g:Nat->Nat)(o:O):(o.mp g).mp f=o.mp (λi=>f (g i)):=by
 cases o with
 |inst C d=>rfl
 |list xs=>show O.list _=O.list _;rw[List.map_map];congr 1;exact List.map_congr_left λv a=>V.iK f g v
 |tup xs=>show O.tup _=O.tup _;rw[List.map_map];congr 1;exact List.map_congr_left λv a=>V.iK f g v
 |dict s=>
  show O.dict _=O.dict _
  rw[List.map_map];congr 1
  refine List.map_congr_left λe a=>?_
  show em f (em g e)=_
  unfold em
  rw[V.iK,V.iK]
 |cell v=>
  cases v with
  |none=>rfl
  |some v=>show O.cell (some _)=O.cell (some _);rw[V.iK]
noncomputable def nF:List V->List V->Bool
 |[],[]=>true
 |a::x,b::y=>cM a b&&nF x y
 |_,_=>false
noncomputable def qB:List (V×V)->List (V×V)->Bool
 |[],[]=>true
 |a::x,b::y=>cM a.1 b.1&&(cM a.2 b.2&&qB x y)
 |_,_=>false
noncomputable def Dz(a b:O):Bool:=match a,b with
 |.inst C d,.inst D e=>Nat.beq C D&&Nat.beq d e
 |.list x,.list y=>nF x y
 |.tup x,.tup y=>nF x y
 |.dict x,.dict y=>qB x y
 |.cell (some v),.cell (some w)=>cM v w
 |.cell .none,.cell .none=>true
 |_,_=>false
def gO(x y:Option O):Bool:=@Option.rec O (λb=>Bool) (@Option.rec O (λb=>Bool) true (λb=>false) y) (λa=>@Option.rec O (λb=>Bool) false (Dz a) y) x
theorem u2:∀{x y:List V},nF x y=true->x=y:=by
 intro x
 induction x with
 |nil=>intro y h;cases y with
  |nil=>rfl
  |cons=>exact Mi.nft h
 |cons a x i=>intro y h;cases y with
  |nil=>exact Mi.nft h
  |cons b y=>
   obtain⟨c,d⟩:=Bool.and_eq_true_iff.mp h
   rw[ef.mp c,i d]
theorem DA:∀{x y:List (V×V)},qB x y=true->x=y:=by
 intro x
 induction x with
 |nil=>intro y h;cases y with
  |nil=>rfl
  |cons=>exact Mi.nft h
 |cons a x j=>intro y h;cases y with
  |nil=>exact Mi.nft h
  |cons b y=>
   obtain⟨a,e⟩:=a
   obtain⟨b,f⟩:=b
   obtain⟨c,g⟩:=Bool.and_eq_true_iff.mp h
   obtain⟨d,i⟩:=Bool.and_eq_true_iff.mp g
   have c:a=b:=ef.mp c
   have d:e=f:=ef.mp d
   rw[c,d,j i]
theorem DB{a b:O}(h:gO (some a) (some b)=true):a=b:=by
 cases a<;>cases b<;>first|exact nft h|skip
 ·obtain⟨c,d⟩:=Bool.and_eq_true_iff.mp h
  rw[Nat.eq_of_beq_eq_true c,Nat.eq_of_beq_eq_true d]
 ·exact congrArg O.list (u2 h)
 ·exact congrArg O.tup (u2 h)
 ·exact congrArg O.dict (DA h)
 all_goals first|(cases‹Option V›<;>exact nft h)|skip
 ·rename_i v w
  cases v<;>cases w<;>first|exact nft h|rfl|exact congrArg (λz=>O.cell (some z)) (ef.mp h)
theorem j2{x y:Option O}(h:gO x y=true):x=y:=by
 cases x with
 |none=>cases y with
  |none=>rfl
  |some b=>exact nft h
 |some a=>cases y with
  |none=>cases a<;>first|exact nft h|(cases‹Option V›<;>exact nft h)
  |some b=>exact congrArg some (DB h)
structure Im(E:List (Option O))(al:Nat->Nat)(U:Hp):Prop where
 inj:∀i j,i<E.length->j<E.length->al i=al j->i=j
 lt:∀i,i<E.length->al i<U.length
 has:∀i o,E[i]? =some (some o)->U.get (al i)=some (o.mp al)
noncomputable def bT(k:Nat)(i:Nat):Bool:=Nat.ble (Nat.succ i) k
theorem dE{k i:Nat}(h:bT k i=true):i<k:=Nat.le_of_ble_eq_true h
def dF(k:Nat)(E:List (Option O)):Bool:=@List.rec (Option O) (λa=>Bool) true (λo a i=>@Option.rec O (λa=>Bool) i (λo=>@Bool.rec (λa=>Bool) false i (o.al (bT k))) o) E
theorem iL{k:Nat}{E:List (Option O)}:dF k E=true↔∀o∈E,(match o with|some o=>o.al (bT k)|.none=>true)=true:=by
 rw[←List.all_eq_true]
 refine Eq.to_iff (congrArg (·=true) ?_)
 induction E with
 |nil=>rfl
 |cons x E i=>
  rw[List.all_cons,←i]
  cases x with
  |none=>rfl
  |some o=>
   refine(?_:@Bool.rec (λa=>Bool) false (dF k E) (o.al (bT k))=(o.al (bT k)&&dF k E))
   cases o.al (bT k)<;>rfl
theorem lL{k:Nat}{E:List (Option O)}(h:dF k E=true){i:Nat}{o:O}(e:E[i]? =some (some o)):o.al (bT k)=true:=
 iL.mp h _ (List.mem_of_getElem? e)
noncomputable def ext(al:Nat->Nat)(k n:Nat)(i:Nat):Nat:=if i<k then al i else n+(i-k)
theorem Im.rel{E al U}(m:Im E al U)(b:dF E.length E=true):Rel (ext al E.length U.length) U.get (cJ E) U:=by
 refine⟨λi j h=>?_,λk=>?_,λi h=>?_,λi o h=>?_,λj c d=>rfl⟩
 ·unfold ext at h
  split at h<;>split at h<;>rename_i p q
  ·exact m.inj _ _ p q h
  ·have:=m.lt i p;lia
  ·have:=m.lt j q;lia
  ·lia
 ·unfold ext;rw[qA,if_neg (by lia)];lia
 ·unfold ext;rw[qA] at h;rw[if_pos h];exact m.lt i h
 ·rw[u1] at h
  have e:E[i]? =some (some o):=by
   generalize q:E[i]? =zz at h
   cases zz with
   |none=>ext h
   |some x=>cases x with
    |none=>ext h
    |some x=>ext h;rfl
  have a:i<E.length:=(List.getElem?_eq_some_iff.mp e).1
  unfold ext
  rw[if_pos a,m.has i o e]
  congr 1
  refine O.dM (p:=bT E.length) (λj q=>?_) (lL b e)
  rw[if_pos (dE q)]
noncomputable def lM(i:Nat):List (Nat×Nat)->Nat
 |[]=>i
 |p::r=>bif Nat.beq p.1 i then p.2 else lM i r
def rf(k:Nat)(u:List (Nat×Nat))(e:List Nat)(i:Nat):Nat:=bif Nat.ble (Nat.succ i) k then lM i u else e.getD (i-k) 0
noncomputable def mem(i:Nat)(l:List Nat):Bool:=@List.rec Nat (λb=>Bool) false (λa b h=>@Bool.rec (λb=>Bool) h true (Nat.beq i a)) l
theorem mem_iff{i:Nat}{l:List Nat}:mem i l=true↔i∈l:=by
 induction l with
 |nil=>exact⟨nft,λh=>nomatch h⟩
 |cons a l b=>
  rw[List.mem_cons,←b]
  refine(?_:@Bool.rec (λc=>Bool) (mem i l) true (Nat.beq i a)=true↔_)
  cases e:Nat.beq i a
  ·exact⟨.inr,λh=>h.elim (λq=>absurd q (Nat.ne_of_beq_eq_false e)) id⟩
  ·exact⟨λc=>.inl (Nat.eq_of_beq_eq_true e),λc=>rfl⟩
noncomputable def nG:List Nat->Bool
 |[]=>true
 |a::r=>!mem a r&&nG r
theorem u3:∀{l:List Nat},nG l=true->l.Nodup
 |[],_=>List.nodup_nil
 |a::r,h=>by
  rw[nG,Bool.and_eq_true,Bool.not_eq_true'] at h
  refine List.nodup_cons.mpr ⟨λq=>?_,u3 h.2⟩
  rw[mem_iff.mpr q] at h;cases h.1
noncomputable def u4(m:List Nat)(n:Nat)(t:HT):HT->Nat->Nat->Bool:=@HT.rec (λc=>HT->Nat->Nat->Bool) (λu c d=>@HT.rec (λc=>Bool) true (λc d e f g=>false) u)
 (λv c d p q u a b=>(Nat.ble n b||(mem b m||gO v u.fe.1))&&(p u.fe.2.1 (Nat.add a a) (Nat.add a b)&&q u.fe.2.2 (Nat.add a a) (Nat.add (Nat.add a a) b))) t
theorem DC{i:Nat}(d:Nat.beq (i % 2) 0=false)(a b:Nat):(a+a)*((i-1)/2)+(a+b)=a*i+b:=by
 have h:i=2*((i-1)/2)+1:=by have:=Nat.ne_of_beq_eq_false d;omega
 generalize(i-1)/2=k at h
 subst h
 rw[Nat.mul_add,←Nat.mul_assoc,Nat.mul_comm a 2,Nat.two_mul,Nat.mul_one,Nat.add_assoc]
theorem DD{i:Nat}(c:Nat.beq i 0=false)(d:Nat.beq (i % 2) 0=true)(a b:Nat):(a+a)*((i-1)/2)+(a+a+b)=a*i+b:=by
 have h:i=2*((i-1)/2)+2:=by have:=Nat.ne_of_beq_eq_false c;have:=Nat.eq_of_beq_eq_true d;omega
 generalize(i-1)/2=k at h
 subst h
 rw[Nat.mul_add,←Nat.mul_assoc,Nat.mul_comm a 2,Nat.two_mul]
 exact(Nat.add_assoc _ _ _).symm
theorem DE{ms n}{t:HT}:∀{u a b f i},u4 ms n t u a b=true->i<f->a*i+b<n->a*i+b∉ms->HT.get f i t=HT.get f i u:=by
 induction t with
 |e=>intro u a b f i h w x y;cases u with
  |e=>rfl
  |n=>exact nft h
 |n v l r p q=>
  intro u a b f i h k j m
  cases f with
  |zero=>exact absurd k (Nat.not_lt_zero _)
  |succ f=>
   obtain⟨g,o⟩:=Bool.and_eq_true_iff.mp h
   obtain⟨o,s⟩:=Bool.and_eq_true_iff.mp o
   rw[HT.mB,HT.mB]
   cases c:Nat.beq i 0 with
   |true=>
    have e:a*i+b=b:=by rw[Nat.eq_of_beq_eq_true c,Nat.mul_zero,Nat.zero_add]
    rw[e] at j m
    rcases Bool.or_eq_true_iff.mp g with g|g
    ·exact absurd j (Nat.not_lt.mpr (Nat.le_of_ble_eq_true g))
    ·rcases Bool.or_eq_true_iff.mp g with g|g
     ·exact absurd (mem_iff.mp g) m
     ·exact j2 g
   |false=>
    have k:=half_lt c k
    cases d:Nat.beq (i % 2) 0 with
    |true=>
     have e:=DD c d a b
     rw[←e] at j m
     exact q s k j m
    |false=>
     have e:=DC d a b
     rw[←e] at j m
     exact p o k j m
noncomputable def lN(G:Hp)(m:List Nat)(E:List (Option O)):Bool:=u4 m E.length G.t (cJ E).t 1 0
theorem DF{G ms}{E:List (Option O)}{i:Nat}(s:lN G ms E=true)(l:E.length<=G.length)(h:i<E.length)(m:i∉ms):G.get i=(E[i]?).join:=by
 have e:1*i+0=i:=Nat.one_mul i
 rw[←u1,Hp.get_eq,Hp.get_eq,qA,if_pos h,if_pos (Nat.lt_of_lt_of_le h l)]
 exact DE s (Nat.lt_succ_self i) (e.symm▸h) (e.symm▸m)
noncomputable def hasB(G:Hp)(r:Nat->Nat):Nat->List (Option O)->Bool
 |_,[]=>true
 |i,.none::l=>hasB G r (Nat.succ i) l
 |i,some o::l=>gO (G.get (r i)) (some (o.mp r))&&hasB G r (Nat.succ i) l
theorem u5{G r}:∀{E:List (Option O)} {k i:Nat} {o:O},hasB G r k E=true->E[i]? =some (some o)->G.get (r (k+i))=some (o.mp r)
 |[],k,i,o,_,h=>by ext h
 |x::E,k,i,o,h,e=>by
  cases i with
  |zero=>
   ext e
   rw[hasB,Bool.and_eq_true] at h
   exact j2 h.1
  |succ i=>
   have a:hasB G r (Nat.succ k) E=true:=by
    cases x with
    |none=>exact h
    |some x=>rw[hasB,Bool.and_eq_true] at h;exact h.2
   have:=u5 (i:=i) a e
   rw[Nat.succ_add] at this
   exact this
noncomputable def isNew(n m:Nat)(a:Nat):Bool:=Nat.ble n a&&Nat.ble (Nat.succ a) m
def u6(E a:List (Option O))(k:Nat)(m c:List Nat)(u:List (Nat×Nat))(e:List Nat)(G:Hp):Bool:=
 Nat.ble E.length G.length&&(dF E.length E&&(Nat.ble k E.length&&(Nat.beq a.length (k+e.length)&&
  (nG (u.map (·.2)++e)&&((u.map (·.2)++e).all (isNew E.length G.length)&&(u.all (λp=>mem p.1 c)&&
  (hasB G (rf k u e) 0 a&&lN G m E)))))))
def eB(E a:List (Option O))(k:Nat)(m c:List Nat)(r:V->Hp->Option (List (Nat×Nat)×List Nat))(b:Option V)(x:Option (R V)):Bool:=match x with
 |some (.ok v G)=>match r v G with
  |some (u,e)=>u6 E a k m c u e G&&(match b with|some w=>w.al (bT a.length)&&cM v (w.mp (rf k u e))|.none=>true)
  |.none=>false
 |_=>false
def j3(E:List (Option O))(m:List Nat)(x:Option (R V)):Bool:=match x with
 |some (.exc G)=>Nat.ble E.length G.length&&(dF E.length E&&lN G m E)
 |_=>false
structure Res(E:List (Option O))(al:Nat->Nat)(U:Hp)(E2:List (Option O))(al2:Nat->Nat)(τ1:Hp)(keep:Nat)(ms ch:List Nat):Prop where
 im:Im E2 al2 τ1
 le:U.length<=τ1.length
 fr:∀j,j<U.length->(∀i,i∈ms->al i≠j)->τ1.get j=U.get j
 kept:∀i,i<keep->i∉ch->al2 i=al i
 new:∀i,i<E2.length->al2 i<U.length->i<keep/\al2 i=al i
theorem Im.frame{E al U ms G c}(v:Im E al U)(b:dF E.length E=true)(r:Rel (ext al E.length U.length) U.get G c)(n:E.length<=G.length)(s:lN G ms E=true):
 U.length<=c.length/\∀j,j<U.length->(∀i,i∈ms->al i≠j)->c.get j=U.get j:=by
 have u:U.length<=c.length:=by
  have:=r.sh 0
  unfold ext at this
  rw[if_neg (by lia)] at this;lia
 refine⟨u,λj w t=>?_⟩
 by_cases q:∃i,i<E.length/\al i=j
 ·obtain⟨i,l,rfl⟩:=q
  have d:=DF s n l λh=>t i h rfl
  cases e:E[i]? with
  |none=>rw[List.getElem?_eq_none_iff] at e;lia
  |some x=>
   rw[e] at d
   have g:ext al E.length U.length i=al i:=by unfold ext;rw[if_pos l]
   cases x with
   |some o=>
    have f:=r.has i o d
    rw[g] at f
    rw[f,v.has i o e]
    congr 1
    refine O.dM (p:=bT E.length) (λj q=>?_) (lL b e)
    unfold ext;rw[if_pos (dE q)]
   |none=>
    refine r.fr _ (by omega) λk m a=>?_
    rw[←g] at a
    rw[r.inj _ _ a];exact d
 ·refine r.fr _ (by omega) λk m a=>?_
  exfalso
  unfold ext at a
  split at a
  ·rename_i h;exact q ⟨k,h,a⟩
  ·lia
theorem u7{i:Nat}:∀{l:List (Nat×Nat)},lM i l=i\/(i,lM i l)∈l
 |[]=>.inl rfl
 |p::r=>by
  unfold lM
  cases h:Nat.beq p.1 i
  ·rcases u7 (i:=i) (l:=r) with q|q
   ·exact .inl q
   ·exact .inr (.tail _ q)
  ·rw[cond_true]
   have:=Nat.eq_of_beq_eq_true h
   subst this
   exact .inr (.head _)
theorem DG{l:List (Nat×Nat)}(h:(l.map (·.2)).Nodup){a b c:Nat}(e:(a,c)∈l)(d:(b,c)∈l):a=b:=by
 induction l with
 |nil=>ext e
 |cons p l i=>
  rw[List.map_cons,List.nodup_cons] at h
  cases e with
  |head=>
   cases d with
   |head=>rfl
   |tail f d=>exact absurd (List.mem_map_of_mem d) h.1
  |tail f e=>
   cases d with
   |head=>exact absurd (List.mem_map_of_mem e) h.1
   |tail f d=>exact i h.2 e d
theorem j4{E t keep ms ch S v2 x al U}{y:Option (R V)}(im:Im E al U)
 (aa:∀f,Rel f U.get (cJ E) U->(∀i,i<E.length->f i=al i)->RO f U.get (V.mp f) x y)(c:eB E t keep ms ch S v2 x=true):
 ∃v s z,y=some (.ok v s)/\Res E al U t z s keep ms ch/\∀w,v2=some w->v=w.mp z:=by
 unfold eB at c
 split at c
 ·rename_i v G
  split at c
  ·rename_i upd ex hr
   rw[Bool.and_eq_true] at c
   obtain⟨c,C⟩:=c
   unfold u6 at c
   simp only[Bool.and_eq_true] at c
   obtain⟨K,T,hk,W,N,nw,hc,hh,hs⟩:=c
   have K:=Nat.le_of_ble_eq_true K
   have hk:=Nat.le_of_ble_eq_true hk
   have W:=Nat.eq_of_beq_eq_true W
   have N:=u3 N
   have P:=im.rel T
   have u:∀i,i<E.length->ext al E.length U.length i=al i:=λi h=>by unfold ext;rw[if_pos h]
   obtain⟨s,hy,r⟩:=aa _ P u
   obtain⟨L,D⟩:=im.frame T r K hs
   generalize hf:ext al E.length U.length=f at*
   have n:∀a,a∈upd.map (·.2)++ex->E.length<=a/\a<G.length:=λa ha=>by
    have:=List.all_eq_true.mp nw a ha
    unfold isNew at this
    rw[Bool.and_eq_true] at this
    exact⟨Nat.le_of_ble_eq_true this.1,Nat.le_of_ble_eq_true this.2⟩
   have k:∀i,i<t.length->(i<keep/\rf keep upd ex i=i)\/(i<keep/\(i,rf keep upd ex i)∈upd)\/(keep<=i/\ex[i-keep]? =some (rf keep upd ex i)):=λi d=>by
    unfold rf
    cases q:Nat.ble (Nat.succ i) keep
    ·have:keep<=i:=by
      rcases Nat.lt_or_ge i keep with h|h
      ·rw[Nat.ble_eq_true_of_le h] at q;ext q
      ·exact h
     refine .inr (.inr ⟨this,?_⟩)
     rw[cond_false,List.getD_eq_getElem?_getD]
     rw[List.getElem?_eq_getElem (by lia)];rfl
    ·have:=Nat.le_of_ble_eq_true q
     rw[cond_true]
     rcases u7 (i:=i) (l:=upd) with h|h
     ·exact .inl ⟨this,h⟩
     ·exact .inr (.inl ⟨this,h⟩)
   have M:∀i,i<t.length->rf keep upd ex i<G.length:=λi d=>by
    rcases k i d with⟨h,e⟩|⟨h,e⟩|⟨h,e⟩
    ·rw[e];omega
    ·exact(n _ (List.mem_append_left _ (List.mem_map_of_mem (f:=(·.2)) e))).2
    ·exact(n _ (List.mem_append_right _ (List.mem_of_getElem? e))).2
   have m:=List.nodup_append.mp N
   have B:∀i j,i<t.length->j<t.length->rf keep upd ex i=rf keep upd ex j->i=j:=λi j d F e=>by
    rcases k i d with⟨h,p⟩|⟨h,p⟩|⟨h,p⟩<;>rcases k j F with⟨g,q⟩|⟨g,q⟩|⟨g,q⟩
    ·lia
    ·have:=(n _ (List.mem_append_left _ (List.mem_map_of_mem (f:=(·.2)) q))).1
     dsimp only at this;lia
    ·have:=(n _ (List.mem_append_right _ (List.mem_of_getElem? q))).1;lia
    ·have:=(n _ (List.mem_append_left _ (List.mem_map_of_mem (f:=(·.2)) p))).1
     dsimp only at this;lia
    ·rw[e] at p;exact DG m.1 p q
    ·exact absurd e (m.2.2 _ (List.mem_map_of_mem (f:=(·.2)) p) _ (List.mem_of_getElem? q))
    ·have:=(n _ (List.mem_append_right _ (List.mem_of_getElem? p))).1;lia
    ·exact absurd e.symm (m.2.2 _ (List.mem_map_of_mem (f:=(·.2)) q) _ (List.mem_of_getElem? p))
    ·rw[e] at p
     have:=(List.getElem?_inj (by lia) m.2.1).mp (p.trans q.symm)
     lia
   refine⟨v.mp f,s,λi=>f (rf keep upd ex i),hy,⟨⟨λi j d F e=>B i j d F (r.inj _ _ e),λi d=>r.lo _ (M i d),λi o e=>?_⟩,L,D,λi d hm=>?_,λi d b=>?_⟩,λw hw=>?_⟩
   ·have:=u5 (i:=i) hh e
    rw[Nat.zero_add] at this
    rw[r.has _ _ this,O.iK]
   ·have b:i<t.length:=by lia
    have:rf keep upd ex i=i:=by
     rcases k i b with⟨h,p⟩|⟨h,p⟩|⟨h,p⟩
     ·exact p
     ·have:=List.all_eq_true.mp hc _ p
      exact absurd (mem_iff.mp this) hm
     ·lia
    show f (rf keep upd ex i)=_
    rw[this];exact u i (by lia)
   ·rcases k i d with⟨h,p⟩|⟨h,p⟩|⟨h,p⟩
    ·refine⟨h,?_⟩
     show f (rf keep upd ex i)=_
     rw[p];exact u i (by omega)
    ·exfalso
     have:=(n _ (List.mem_append_left _ (List.mem_map_of_mem (f:=(·.2)) p))).1
     dsimp only at this b
     rw[←hf] at b
     unfold ext at b
     rw[if_neg (by lia)] at b;lia
    ·exfalso
     have:=(n _ (List.mem_append_right _ (List.mem_of_getElem? p))).1
     rw[←hf] at b
     unfold ext at b
     rw[if_neg (by lia)] at b;lia
   ·rw[hw] at C
    dsimp only at C
    rw[Bool.and_eq_true] at C
    rw[ef.mp C.2,V.iK]
  ·ext c
 ·ext c
theorem DH{E ms x al U}{y:Option (R V)}(m:Im E al U)
 (e:∀f,Rel f U.get (cJ E) U->(∀i,i<E.length->f i=al i)->RO f U.get (V.mp f) x y)(c:j3 E ms x=true):
 ∃a,y=some (.exc a)/\U.length<=a.length/\∀j,j<U.length->(∀i,i∈ms->al i≠j)->a.get j=U.get j:=by
 unfold j3 at c
 split at c
 ·rename_i G
  simp only[Bool.and_eq_true] at c
  obtain⟨l,b,s⟩:=c
  have l:=Nat.le_of_ble_eq_true l
  obtain⟨a,d,r⟩:=e _ (m.rel b) (λi h=>by unfold ext;rw[if_pos h])
  exact⟨a,d,m.frame b r l s⟩
 ·ext c
def TA(q:Option (Nat×List V)):Tb:={Tt.tb with arg:=q}
theorem DI:Tt.gL.all (λa p=>p.2.2.all V.gq)=true:=by decide+kernel
theorem DJ:Tt.pz.all (λa xs=>xs.all V.gq)=true:=by decide+kernel
theorem DM:Tt.pv.all (λa e=>nq e)=true:=by decide+kernel
theorem same(q):de Tt.tb (TA q):=⟨rfl,rfl,rfl,rfl,rfl,rfl,rfl,rfl,rfl,by decide+kernel,λa xs h=>Tr.fq DJ h,λa s h=>Tr.fq DM h,λa f h=>by
 cases e:Tt.gL.get a with
 |none=>simp only[Tt.tb,e] at h;ext h
 |some p=>
  simp only[Tt.tb,e] at h
  ext h
  exact Tr.fq DI e⟩
def RR:Fs:=run Tt.tb 150
noncomputable def N:Nat:=101
def texts:List Str:=[z "quote",z "if",z "lambda",z "set!",z "begin",z "define",z "define-syntax",z "let-syntax",z "letrec-syntax",z "and",z "or",z "let",z "let*",z "letrec",z "cond",z "case",z "do",z "delay",z "quasiquote",z "own",z "other",z "syntax-rules",z "_"]
noncomputable def u9:Nat->List Str->List (Nat×Str)
 |_,[]=>[]
 |k,x::r=>(k,x)::u9 (Nat.succ k) r
def kw:List (Nat×Str):=u9 0 texts
noncomputable def int(n:Nat):V:=.int (.ofNat n)
def DN(k:Nat):Bool:=mem k [1,2,3,11,14,19]
def lO(t:Nat)(p:Nat×Str):List (Option O):=bif bT t p.1 then[some (.dict [(.str (z "number"),int p.1),(.str (z "text"),.str p.2)]),some (.inst 398 (11+2*p.1))] else[none,none]
def u_(p:Nat×Str):List (Option O):=bif DN p.1 then[none,none] else[some (.dict [(.str (z "word"),.str p.2)]),some (.inst 710 (57+2*p.1))]
def vb(t:Nat)(o:Bool):List (Option O):=
 [some (.dict [(.str (z "table"),.ref 3),(.str (z "last"),.int 0),(.str (z "titles"),.ref 6),(.str (z "ops"),.ref 7),(.str (z "root"),.ref 9)]),
  some (.inst 1893 0),some (.dict [(.str (z "rows"),.ref 4),(.str (z "by_text"),.ref 5)]),some (.inst 461 2),
  some (.list ((kw.take t).map λp=>.ref (12+2*p.1))),some (.dict ((kw.take t).map λp=>(.str p.2,.ref (12+2*p.1)))),
  some (.dict []),some (.dict []),some (.dict [(.str (z "parent"),.none),(.str (z "names"),.ref 10)]),some (.inst 864 8),
  some (.dict ((kw.take (bif o then 20 else 19)).map λp=>(int (2*p.1),.ref (58+2*p.1))))]
def DO(w:Bool):List (Option O):=bif w then[some (.dict [(.str (z "world"),.ref 1),(.str (z "jobs"),.ref 99),(.str (z "nodes"),.ref 100),(.str (z "uses"),.int 0),(.str (z "written"),.int 0)]),some (.inst 1781 97),some (.list []),some (.list [])] else[none,none,none,none]
def Ew(t:Nat)(o w:Bool):List (Option O):=vb t o++(kw.flatMap (lO t)++((kw.take 20).flatMap u_++DO w))
noncomputable def eo(vis:List Nat):Nat->List (Option O)->List (Option O)
 |_,[]=>[]
 |i,o::r=>(bif mem i vis then o else none)::eo vis (Nat.succ i) r
noncomputable def num(j:Nat):Nat:=[1,2,11,19,3,14].getD j 1
def nm(k:Nat):Str:=texts.getD k (z "")
def Ek(t:Nat)(o w:Bool)(vis:List Nat)(j c:Nat):List (Option O):=
 bif Nat.beq c 0 then eo vis 0 (Ew t o w) else(eo vis 0 (Ew t o w)).set (58+2*num j) (some (.inst c (57+2*num j)))
inductive Dt where
 |i (n:Int)|s (k:Nat)|e|c (a d:Dt)
noncomputable def Dt.sz:Dt->Nat
 |.c a d=>2+(a.sz+d.sz)
 |_=>0
noncomputable def Dt.fv(b:Nat):Dt->V
 |.i n=>.int n
 |.s k=>.ref (12+2*k)
 |.e=>.old 374
 |.c a d=>.ref (b+1)
noncomputable def Dt.fb(b:Nat):Dt->List (Option O)
 |.c a d=>some (.dict [(.str (z "car"),a.fv (b+2)),(.str (z "cdr"),d.fv (b+2+a.sz)),(.str (z "mark"),.none)])::some (.inst 482 b)::(a.fb (b+2)++d.fb (b+2+a.sz))
 |_=>[]
noncomputable def Dt.col(G:Hp):Dt->V->Option (List Nat)
 |.c a d,.ref q=>match G.get q with
  |some (.inst f k)=>match G.get k with
   |some (.dict b)=>match cb (.str (z "car")) b,cb (.str (z "cdr")) b with
    |some x,some y=>match a.col G x,d.col G y with
     |some p,some r=>some (k::q::(p++r))
     |_,_=>none
    |_,_=>none
   |_=>none
  |_=>none
 |.c f g,_=>none
 |_,_=>some []
noncomputable def Dt.sv(f:Bool):Dt->Nat
 |.e=>bif f then 0 else 1
 |.c a d=>(bif f then 0 else 1)+(a.sv false+d.sv true)
 |_=>0
def Dt.gv(b:Nat):Dt->V
 |.i n=>.int n
 |.s k=>.str (nm k)
 |_=>.ref b
noncomputable def Dt.el(b:Nat):Dt->List V
 |.c a d=>a.gv b::d.el (b+a.sv false)
 |_=>[]
noncomputable def Dt.gb(f:Bool)(b:Nat):Dt->List (Option O)
 |.e=>bif f then[] else[some (.list [])]
 |.c a d=>bif f then a.gb false b++d.gb true (b+a.sv false) else some (.list (a.gv (b+1)::d.el (b+1+a.sv false)))::(a.gb false (b+1)++d.gb true (b+1+a.sv false))
 |_=>[]
noncomputable def Dt.lP(G:Hp)(f:Bool):Dt->List V->Option (List Nat)
 |.c a d,b=>bif f then(match b with
   |v::r=>match a.lP G false [v],d.lP G true r with
    |some p,some q=>some (p++q)
    |_,_=>none
   |[]=>none)
  else(match b with
   |[.ref k]=>match G.get k with
    |some (.list xs)=>match xs with
     |v::r=>match a.lP G false [v],d.lP G true r with
      |some p,some q=>some (k::(p++q))
      |_,_=>none
     |[]=>none
    |_=>none
   |_=>none)
 |.e,b=>bif f then some [] else(match b with
  |[.ref k]=>some [k]
  |_=>none)
 |_,_=>some []
noncomputable def lst:List Dt->Dt
 |[]=>.e
 |a::r=>.c a (lst r)
def vc:Dt:=lst [.s 21,.e,lst [lst [.s 22],.i 1]]
def D(p:Nat):Dt:=
 bif bT 36 p then lst [.s 5,.s (num (p/6)),[.i 7,.s 20,.e,lst [.s 5],lst [.s 0],.i 5].getD (p % 6) .e]
 else bif bT 72 p then lst [.s 6,.s (num ((p-36)/6)),[vc,vc,lst [.s 21],.i 5,lst [.s 21,.e,lst [lst [.s 22]]],lst [.s 21,lst [.i 3],lst [lst [.s 22],.i 1]]].getD (p % 6) .e]
 else[lst [.s 0,.i 7],.i 8,.e,lst [.s 0,.i 1,.i 2],.s 4,.s 20].getD (p-72) .e
noncomputable def nH(p:Nat):Nat:=p % 6
def cR(p:Nat):Nat:=bif bT 36 p then 0 else bif bT 72 p then 1 else 2
def cu(p:Nat):Nat:=bif bT 36 p then p/6 else(p-36)/6
def b9(p:Nat):Bool:=bif Nat.beq (cR p) 1 then Nat.ble 2 (nH p) else Nat.ble 2 (nH p)&&Nat.ble (nH p) 4
def cX(p:Nat):Nat:=bif Nat.beq (cR p) 1 then(match nH p with|2=>22|3=>21|_=>23) else 21
def DP(n j:Nat)(G:Hp):Option (List (Nat×Nat)):=match G.get 10 with
 |some (.dict e)=>match cb (int (2*num j)) e with
  |some (.ref i)=>bif Nat.ble n i then(match G.get i with
   |some (.inst a d)=>some [(57+2*num j,d),(58+2*num j,i)]
   |_=>none) else some []
  |_=>some []
 |_=>none
noncomputable def cY(n:Nat)(b:Nat):List Nat:=(List.range n).map (b+·)
noncomputable def iM(s:List Nat):List Nat:=s.flatMap λk=>[11+2*k,12+2*k]
noncomputable def nJ(s:List Nat):List Nat:=s.flatMap λk=>[57+2*k,58+2*k]
theorem Im.mono{E a al U}(m:Im E al U)(l:a.length<=E.length)(h:∀(i:Nat) (o:O),a[i]? =some (some o)->E[i]? =some (some o)):Im a al U:=
 ⟨λi j b c=>m.inj i j (by omega) (by omega),λi b=>m.lt i (by omega),λi o e=>m.has i o (h i o e)⟩
def cat(al xs:Nat->Nat)(i:Nat):Nat:=if i<N then al i else xs (i-N)
structure bR(B:List (Option O))(al xs:Nat->Nat)(U:Hp):Prop where
 inj:∀i j,i<B.length->j<B.length->xs i=xs j->i=j
 lt:∀i,i<B.length->xs i<U.length
 jo:∀i j,i<N->j<B.length->al i≠xs j
 has:∀i o,B[i]? =some (some o)->U.get (xs i)=some (o.mp (cat al xs))
theorem bR.nil{al xs U}:bR [] al xs U:=⟨λa b h=>absurd h (Nat.not_lt_zero _),λa h=>absurd h (Nat.not_lt_zero _),λa b c h=>absurd h (Nat.not_lt_zero _),λa b h=>by cases h⟩
theorem b8{al xs i}(h:i<N):cat al xs i=al i:=by unfold cat;rw[if_pos h]
theorem dm{al xs i}(h:N<=i):cat al xs i=xs (i-N):=by unfold cat;rw[if_neg (Nat.not_lt.mpr h)]
theorem Im.merge{M B al xs U}(m:Im M al U)(b:bR B al xs U)(a:M.length=N)(c:dF N M=true):Im (M++B) (cat al xs) U:=by
 have l:(M++B).length=N+B.length:=by rw[List.length_append,a]
 refine⟨λi j h d e=>?_,λi h=>?_,λi o e=>?_⟩
 ·rw[l] at h d
  by_cases p:i<N<;>by_cases q:j<N
  ·rw[b8 p,b8 q] at e;exact m.inj i j (by omega) (by omega) e
  ·rw[b8 p,dm (by omega)] at e;exact absurd e (b.jo i _ p (by omega))
  ·rw[b8 q,dm (by omega)] at e;exact absurd e.symm (b.jo j _ q (by omega))
  ·rw[dm (by omega),dm (by omega)] at e
   have:=b.inj _ _ (by omega) (by omega) e;lia
 ·rw[l] at h
  by_cases p:i<N
  ·rw[b8 p];exact m.lt i (by omega)
  ·rw[dm (by omega)];exact b.lt _ (by omega)
 ·by_cases p:i<N
  ·rw[List.getElem?_append_left (by omega)] at e
   rw[b8 p,m.has i o e]
   congr 1
   refine O.dM (p:=bT N) (λk q=>?_) (lL c e)
   rw[b8 (dE q)]
  ·rw[List.getElem?_append_right (by lia),a] at e
   rw[dm (by omega)];exact b.has _ o e
def eD(t i:Nat):Bool:=bT 10 i||(Nat.ble 11 i&&bT (11+2*t) i)
structure St(t:Nat)(al:Nat->Nat)(U:Hp)(al2:Nat->Nat)(τ1:Hp):Prop where
 le:U.length<=τ1.length
 fr:∀j,j<U.length->(∀i,i<N->al i≠j)->τ1.get j=U.get j
 new:∀i,i<N->al2 i<U.length->al2 i=al i
 sy:∀i,eD t i=true->al2 i=al i
theorem qC{t a i}(h:t<=a)(q:eD t i=true):eD a i=true:=by
 unfold eD at*
 rw[Bool.or_eq_true,Bool.and_eq_true] at*
 rcases q with q|⟨q,p⟩
 ·exact .inl q
 ·exact .inr ⟨q,by have:=dE p;exact Nat.ble_eq_true_of_le (by lia)⟩
theorem St.refl(t al U):St t al U al U:=⟨Nat.le_refl _,λa b c=>rfl,λa b c=>rfl,λa b=>rfl⟩
theorem St.trans{t m al U l f d g}(a:St t al U l f)(b:St m l f d g)(h:t<=m):St t al U d g:=by
 refine⟨Nat.le_trans a.le b.le,λj k o=>?_,λi c k=>?_,λi c=>?_⟩
 ·rw[b.fr j (Nat.lt_of_lt_of_le k a.le) λi c e=>o i c ?_,a.fr j k o]
  rw[←a.new i c (by lia)];exact e
 ·have n:=b.new i c (Nat.lt_of_lt_of_le k a.le)
  rw[n];exact a.new i c (by lia)
 ·rw[b.sy i (qC h c),a.sy i c]
noncomputable def Off(al:Nat->Nat)(U:Hp)(a:Nat):Prop:=a<U.length/\∀i,i<N->al i≠a
theorem St.off{t al U l b a}(s:St t al U l b)(h:Off al U a):Off l b a/\b.get a=U.get a:=by
 refine⟨⟨Nat.lt_of_lt_of_le h.1 s.le,λi c e=>h.2 i c ?_⟩,s.fr a h.1 h.2⟩
 rw[←s.new i c (by rw[e];exact h.1)];exact e
def j5(t:Nat)(B:List (Option O)):Bool:=B.all λo=>match o with
 |some o=>o.al λi=>eD t i||Nat.ble N i
 |.none=>true
theorem lQ{t i}(h:eD t i=true)(a:t<=23):i<N:=by
 unfold eD at h
 rw[Bool.or_eq_true,Bool.and_eq_true] at h
 unfold N
 rcases h with h|h
 ·have:=dE h;lia
 ·have:=dE h.2;lia
theorem bR.st{t al U a c B xs}(b:bR B al xs U)(s:St t al U a c)(d:t<=23)(g:j5 t B=true):bR B a xs c:=by
 have f:∀i,i<B.length->Off al U (xs i):=λi h=>⟨b.lt i h,λk m=>b.jo k i m h⟩
 refine⟨b.inj,λi h=>(s.off (f i h)).1.1,λi j h l=>(s.off (f j l)).1.2 i h,λi o e=>?_⟩
 have h:i<B.length:=(List.getElem?_eq_some_iff.mp e).1
 rw[(s.off (f i h)).2,b.has i o e]
 congr 1
 have:=List.all_eq_true.mp g _ (List.mem_of_getElem? e)
 refine O.dM (p:=λi=>eD t i||Nat.ble N i) (λk q=>?_) this
 rw[Bool.or_eq_true] at q
 rcases q with q|q
 ·rw[b8 (lQ q d),b8 (lQ q d),s.sy k q]
 ·have:=Nat.le_of_ble_eq_true q
  rw[dm this,dm this]
noncomputable def h_(m c:List Nat)(E M2:List (Option O)):Nat->List (Option O)->Bool
 |_,[]=>true
 |i,.none::r=>h_ m c E M2 (Nat.succ i) r
 |i,some o::r=>(gO (M2.getD i none) (some o)||(!mem i m&&(!mem i c&&(gO (E.getD i none) (some o)&&o.al λk=>!mem k c))))&&h_ m c E M2 (Nat.succ i) r
theorem DQ{ms ch E M2}{r:List (Option O)}{k i:Nat}{o:O}(h:h_ ms ch E M2 k r=true)(e:r[i]? =some (some o)):
 gO (M2.getD (k+i) none) (some o)=true\/(k+i∉ms/\k+i∉ch/\gO (E.getD (k+i) none) (some o)=true/\(o.al λk=>!mem k ch)=true):=by
 induction r generalizing k i with
 |nil=>ext e
 |cons x r b=>
  cases i with
  |zero=>
   ext e
   rw[h_,Bool.and_eq_true,Bool.or_eq_true] at h
   rcases h.1 with q|q
   ·exact .inl q
   ·simp only[Bool.and_eq_true,Bool.not_eq_true'] at q
    refine .inr ⟨λm=>?_,λm=>?_,q.2.2.1,q.2.2.2⟩
    ·have:=mem_iff.mpr m;rw[Nat.add_zero,q.1] at this;ext this
    ·have:=mem_iff.mpr m;rw[Nat.add_zero,q.2.1] at this;ext this
  |succ i=>
   have a:h_ ms ch E M2 (Nat.succ k) r=true:=by
    cases x with
    |none=>exact h
    |some x=>rw[h_,Bool.and_eq_true] at h;exact h.2
   have:=b (i:=i) a e
   rwa [Nat.succ_add] at this
theorem getD_some{E:List (Option O)}{i:Nat}{o:O}(h:E.getD i none=some o):E[i]? =some (some o):=by
 rw[List.getD_eq_getElem?_getD] at h
 generalize e:E[i]? =zz at h
 cases zz with
 |none=>ext h
 |some x=>rw[Option.getD_some] at h;rw[h]
theorem nK(p r:Nat->Bool)(v:V):(v.al λk=>p k&&r k)=(v.al p&&v.al r):=by cases v<;>rfl
theorem qD(p r:Nat->Bool):∀l:List V,l.all (V.al λk=>p k&&r k)=(l.all (V.al p)&&l.all (V.al r))
 |[]=>rfl
 |v::l=>by
  rw[List.all_cons,List.all_cons,List.all_cons,qD p r l,nK]
  cases v.al p<;>cases v.al r<;>cases l.all (V.al p)<;>rfl
theorem DR(p r:Nat->Bool)(o:O):(o.al λk=>p k&&r k)=(o.al p&&o.al r):=by
 cases o with
 |inst C d=>rfl
 |list xs=>exact qD p r xs
 |tup xs=>exact qD p r xs
 |cell v=>
  cases v with
  |none=>rfl
  |some v=>exact nK p r v
 |dict s=>
  show s.all _=(s.all _&&s.all _)
  induction s with
  |nil=>rfl
  |cons e s i=>
   rw[List.all_cons,List.all_cons,List.all_cons,i,nK,nK]
   cases e.1.al p<;>cases e.1.al r<;>cases e.2.al p<;>cases e.2.al r<;>cases(s.all λe=>e.1.al p&&e.2.al p)<;>rfl
theorem Im.step{E f M2 al U a d ms ch}(w:Im E al U)(x:E.length=N)(b:Im M2 a d)(M:M2.length=N)(g:f.length=N)
 (u:∀i,i<N->i∉ms->d.get (al i)=U.get (al i))(t:∀i,i<N->i∉ch->a i=al i)(l:dF N f=true)
 (c:h_ ms ch E M2 0 f=true):Im f a d:=by
 refine⟨λi j h y=>b.inj i j (by omega) (by omega),λi h=>b.lt i (by omega),λi o e=>?_⟩
 have h:i<N:=by rw[←g];exact(List.getElem?_eq_some_iff.mp e).1
 rcases DQ c e with q|⟨n,r,s,v⟩
 ·rw[Nat.zero_add] at q
  exact b.has i o (getD_some (j2 q))
 ·rw[Nat.zero_add] at n r s
  rw[t i h r,u i h n,w.has i o (getD_some (j2 s))]
  congr 1
  have l:=lL l e
  refine O.dM (p:=λk=>bT N k&&!mem k ch) (λk q=>?_) ?_
  ·rw[Bool.and_eq_true,Bool.not_eq_true'] at q
   rw[t k (dE q.1) λm=>by rw[mem_iff.mpr m] at q;cases q.2]
  ·rw[DR,l,v];rfl
structure Go(al:Nat->Nat)(U:Hp)(M2 B2:List (Option O))(al2 ys:Nat->Nat)(τ1:Hp)(ms ch:List Nat):Prop where
 im:Im M2 al2 τ1
 lR:bR B2 al2 ys τ1
 le:U.length<=τ1.length
 fr:∀j,j<U.length->(∀i,i∈ms->al i≠j)->τ1.get j=U.get j
 kept:∀i,i<N->i∉ch->al2 i=al i
 new:∀i,i<N->al2 i<U.length->al2 i=al i
def qE(t:Nat)(c:List Nat):Bool:=c.all λi=>!eD t i
theorem Go.st{al U M2 B a ys b ms ch}(g:Go al U M2 B a ys b ms ch){t}(k:t<=23)(f:ms.all (bT N)=true)(d:qE t ch=true):St t al U a b:=
 ⟨g.le,λj e h=>g.fr j e λi c=>h i (dE (List.all_eq_true.mp f i c)),g.new,λi c=>g.kept i (lQ c k) λm=>by
  have:=List.all_eq_true.mp d i m
  rw[c] at this;cases this⟩
theorem go{M B M2 l al xs U ms ch p v2 x}{y:Option (R V)}(E:Im M al U)(b:bR B al xs U)(q:M.length=N)(s:dF N M=true)(k:M2.length=N)(z:ms.all (bT N)=true)
 (K:∀f,Rel f U.get (cJ (M++B)) U->(∀i,i<(M++B).length->f i=cat al xs i)->RO f U.get (V.mp f) x y)
 (c:eB (M++B) (M2++l) N ms ch p v2 x=true):
 ∃v g a ys,y=some (.ok v g)/\Go al U M2 l a ys g ms ch/\∀w,v2=some w->v=w.mp (cat a ys):=by
 obtain⟨v,g,a,D,r,C⟩:=j4 (E.merge b q s) K c
 have F:(M2++l).length=N+l.length:=by rw[List.length_append,k]
 have t:cat a (λi=>a (N+i))=a:=by
  funext i
  by_cases h:i<N
  ·rw[b8 h]
  ·rw[dm (by omega)];congr 1;omega
 have n:∀i,i∈ms->i<N:=λi d=>dE (List.all_eq_true.mp z i d)
 refine⟨v,g,a,λi=>a (N+i),D,⟨r.im.mono (by lia) λi o e=>?_,⟨λi j d m e=>?_,λi d=>r.im.lt _ (by lia),λi j d m e=>?_,λi o e=>?_⟩,r.le,λj m h=>r.fr j m λi d=>?_,λi d u=>?_,λi d h=>?_⟩,?_⟩
 ·rw[List.getElem?_append_left];exact e
  exact(List.getElem?_eq_some_iff.mp e).1
 ·have:=r.im.inj _ _ (by lia) (by lia) e;lia
 ·have:=r.im.inj _ _ (by lia) (by lia) e;lia
 ·rw[t]
  refine r.im.has _ o ?_
  rw[List.getElem?_append_right (by lia),k,Nat.add_sub_cancel_left];exact e
 ·rw[b8 (n i d)];exact h i d
 ·rw[r.kept i d u,b8 d]
 ·rw[(r.new i (by lia) h).2,b8 d]
 ·rw[t];exact C
theorem nO{M B al xs U ms x}{y:Option (R V)}(o:Im M al U)(b:bR B al xs U)(e:M.length=N)(g:dF N M=true)(m:ms.all (bT N)=true)
 (p:∀f,Rel f U.get (cJ (M++B)) U->(∀i,i<(M++B).length->f i=cat al xs i)->RO f U.get (V.mp f) x y)
 (c:j3 (M++B) ms x=true):∃a,y=some (.exc a)/\U.length<=a.length/\∀j,j<U.length->(∀i,i∈ms->al i≠j)->a.get j=U.get j:=by
 obtain⟨a,n,l,r⟩:=DH (o.merge b e g) p c
 refine⟨a,n,l,λj k h=>r j k λi d=>?_⟩
 rw[b8 (dE (List.all_eq_true.mp m i d))];exact h i d
theorem eE{q n a as E g U}{al:Nat->Nat}(d:150<=n)(b:as.all (V.al (bT E))=true)(f:Nat->Nat){G}(r:Rel f g G U)(c:∀i,i<E->f i=al i):
 RO f g (V.mp f) (RR.call a as G) ((run (TA q) n).call a (as.map (V.mp al)) U):=by
 have:=(nE (same q) d).call a as _ _ r
 rwa [Vs.dM (p:=bT E) (g:=al) (λi h=>c i (dE h)) b] at this
theorem cS(t:Nat)(o w:Bool):(Ew t o w).length=N:=by
 have h:∀l:List (Nat×Str),(l.flatMap (lO t)).length=2*l.length:=by
  intro l
  induction l with
  |nil=>rfl
  |cons p l i=>rw[List.flatMap_cons,List.length_append,i,List.length_cons];unfold lO;cases bT t p.1<;>simp only[cond_true,cond_false,List.length_cons,List.length_nil]<;>lia
 unfold Ew
 rw[List.length_append,List.length_append,h]
 cases w<;>rfl
theorem lS(vis:List Nat):∀(E:List (Option O)) (i:Nat),(eo vis i E).length=E.length
 |[],_=>rfl
 |o::r,i=>by rw[eo,List.length_cons,List.length_cons,lS vis r]
theorem dg(t o w vis j c):(Ek t o w vis j c).length=N:=by
 unfold Ek
 cases Nat.beq c 0
 ·rw[cond_false,List.length_set,lS,cS]
 ·rw[cond_true,lS,cS]
theorem vd(vis:List Nat):∀(E:List (Option O)) (k i:Nat) (o:O),(eo vis k E)[i]? =some (some o)->E[i]? =some (some o)
 |[],_,_,_,h=>by ext h
 |x::r,k,i,o,h=>by
  rw[eo] at h
  cases i with
  |zero=>
   rw[List.getElem?_cons_zero] at h⊢
   cases e:mem k vis
   ·rw[e] at h;ext h
   ·rw[e] at h;exact h
  |succ i=>rw[List.getElem?_cons_succ] at h⊢;exact vd vis r _ i o h
theorem ve(k:Nat)(vis:List Nat):∀(E:List (Option O)) (i:Nat),dF k E=true->dF k (eo vis i E)=true
 |[],_,_=>rfl
 |x::r,i,h=>by
  rw[iL,List.forall_mem_cons,←iL] at h
  rw[eo,iL,List.forall_mem_cons,←iL]
  refine⟨?_,ve k vis r _ h.2⟩
  cases mem i vis
  ·rfl
  ·exact h.1
structure Wd(t:Nat)(K:Nat->Nat)(w:Bool)(al:Nat->Nat)(U:Hp):Prop where
 im:Im (Ew t (!Nat.beq (K 3) 0) w) al U
 ks:∀j,j<6->K j≠0->U.get (al (58+2*num j))=some (.inst (K j) (al (57+2*num j)))
 kv:∀j,j<6->(K j=710/\j≠3)\/K j=752\/K j=773\/(K j=0/\j=3)
 ts:t=21\/t=22\/t=23
theorem nP:∀t,t=21\/t=22\/t=23->∀o w,dF N (Ew t o w)=true:=by
 have:([21,22,23].all λt=>[false,true].all λo=>[false,true].all λw=>dF N (Ew t o w))=true:=by decide+kernel
 intro t h o w
 simp only[List.all_cons,List.all_nil,Bool.and_eq_true] at this
 rcases h with rfl|rfl|rfl<;>cases o<;>cases w<;>simp only[this]
theorem iN(j:Nat)(h:j<6):num j<20:=Nat.le_of_ble_eq_true (List.all_eq_true.mp (show(List.range 6).all (λj=>Nat.ble (Nat.succ (num j)) 20)=true by decide) j (List.mem_range.mpr h))
noncomputable def dP:List (Option O)->List (Option O)->Bool
 |[],_=>true
 |a::b,[]=>false
 |.none::r,a::s=>dP r s
 |some o::r,x::s=>gO (some o) x&&dP r s
theorem jq:∀{E a:List (Option O)} {i:Nat} {o:O},dP E a=true->E[i]? =some (some o)->a[i]? =some (some o)
 |[],_,_,_,_,e=>by ext e
 |c::d,[],_,_,h,_=>by simp[dP] at h
 |x::E,y::a,i,o,h,e=>by
  have b:dP E a=true:=by
   cases x with
   |none=>exact h
   |some x=>rw[dP,Bool.and_eq_true] at h;exact h.2
  cases i with
  |zero=>
   ext e
   rw[dP,Bool.and_eq_true] at h
   rw[←j2 h.1];rfl
  |succ i=>rw[List.getElem?_cons_succ] at e⊢;exact jq b e
def iO(vis:List Nat):Bool:=!mem 4 vis&&!mem 5 vis
def most:List Nat:=[0,1,2,3]++cY 95 6
theorem DS(vis:List Nat)(p:List Nat)(h:∀i,mem i vis=true->i<N->mem i p=true):∀(E:List (Option O)) (k i:Nat) (o:O),k+E.length<=N->(eo vis k E)[i]? =some (some o)->(eo p k E)[i]? =some (some o):=by
 intro E
 induction E with
 |nil=>intro c d f g e;ext e
 |cons x r b=>
  intro k i o a e
  rw[List.length_cons] at a
  rw[eo] at e⊢
  cases i with
  |zero=>
   rw[List.getElem?_cons_zero] at e⊢
   cases q:mem k vis
   ·rw[q] at e;ext e
   ·rw[q] at e
    rw[h k q (by lia)];exact e
  |succ i=>rw[List.getElem?_cons_succ] at e⊢;exact b (Nat.succ k) i o (by lia) e
theorem DT:∀s t,(s=21\/s=22\/s=23)->(t=21\/t=22\/t=23)->s<=t->∀o w,dP (eo most 0 (Ew s o w)) (Ew t o w)=true:=by
 have:([(21,21),(21,22),(21,23),(22,22),(22,23),(23,23)].all λp=>[false,true].all λo=>[false,true].all λw=>dP (eo most 0 (Ew p.1 o w)) (Ew p.2 o w))=true:=by decide+kernel
 intro s t h a l o w
 simp only[List.all_cons,List.all_nil,Bool.and_eq_true] at this
 rcases h with rfl|rfl|rfl<;>rcases a with rfl|rfl|rfl<;>first|lia|(cases o<;>cases w<;>simp only[this])
theorem DU:∀i,i≠4->i≠5->i<N->mem i most=true:=by
 have:((List.range N).all λi=>Nat.beq i 4||(Nat.beq i 5||mem i most))=true:=by decide+kernel
 intro i h a b
 have:=List.all_eq_true.mp this i (List.mem_range.mpr b)
 rw[Bool.or_eq_true,Bool.or_eq_true] at this
 rcases this with q|q|q
 ·exact absurd (Nat.eq_of_beq_eq_true q) h
 ·exact absurd (Nat.eq_of_beq_eq_true q) a
 ·exact q
theorem Wd.eo{t K w al U}(W:Wd t K w al U){s:Nat}{vis:List Nat}(c:s=21\/s=22\/s=23)(b:s<=t)(h:s=t\/iO vis=true):Im (eo vis 0 (Ew s (!Nat.beq (K 3) 0) w)) al U:=by
 refine W.im.mono (by rw[lS,cS,cS];exact Nat.le_refl _) λi o e=>?_
 rcases h with rfl|h
 ·exact vd vis _ _ i o e
 ·refine jq (DT s t c W.ts b _ w) (DS vis most (λi a N=>?_) _ 0 i o (by rw[cS];exact Nat.le_of_eq (Nat.zero_add _)) e)
  unfold iO at h
  rw[Bool.and_eq_true,Bool.not_eq_true',Bool.not_eq_true'] at h
  exact DU i (λe=>by rw[e,h.1] at a;ext a) (λe=>by rw[e,h.2] at a;ext a) N
theorem Wd.ek{t K w al U}(W:Wd t K w al U){s:Nat}{vis:List Nat}(n:s=21\/s=22\/s=23)(g:s<=t)(h:s=t\/iO vis=true){j c:Nat}(d:c=0\/(j<6/\c=K j)):
 Im (Mi.Ek s (!Nat.beq (K 3) 0) w vis j c) al U/\dF N (Mi.Ek s (!Nat.beq (K 3) 0) w vis j c)=true:=by
 have f:=W.eo n g h
 have k:=ve N vis _ 0 (nP s n (!Nat.beq (K 3) 0) w)
 unfold Mi.Ek
 cases l:Nat.beq c 0
 ·rw[cond_false]
  have m:c≠0:=λe=>by rw[e] at l;ext l
  rcases d with d|⟨d,rfl⟩
  ·exact absurd d m
  refine⟨⟨λa b p r=>f.inj a b (by rwa [List.length_set] at p) (by rwa [List.length_set] at r),λi u=>f.lt i (by rwa [List.length_set] at u),λi o e=>?_⟩,?_⟩
  ·rw[List.getElem?_set] at e
   split at e
   ·rename_i q
    split at e
    ·ext e
     rw[←q];exact W.ks j d m
    ·ext e
   ·exact f.has i o e
  ·refine iL.mpr λo v=>?_
   rcases List.mem_or_eq_of_mem_set v with h|h
   ·exact iL.mp k o h
   ·rw[h]
    have:=iN j d
    show bT N (57+2*num j)=true
    exact Nat.ble_eq_true_of_le (by unfold N;lia)
 ·rw[cond_true];exact⟨f,k⟩
def nR(t:Nat)(o w:Bool)(e:Nat)(a b:Bool)(vis:List Nat)(s j d:Nat)(m c:List Nat):Bool:=
 h_ m c (Ew t o w) (Ek s a b vis j d) 0 (Ew e a b)&&(m.all (bT N)&&(qE t c&&([0,1,2,3,4,5].all λi=>Nat.beq i j||(!mem (58+2*num i) m&&(!mem (58+2*num i) c&&!mem (57+2*num i) c)))))
theorem j6{i:Nat}{l:List Nat}(h:(!mem i l)=true):i∉l:=λm=>by rw[mem_iff.mpr m] at h;ext h
theorem Wd.step{t K w al U d K' r s vis j c B l ys b ms ch}{p:Bool}(W:Wd t K w al U)(g:Go al U (Mi.Ek s p r vis j c) B l ys b ms ch)
 (h:nR t (!Nat.beq (K 3) 0) w d p r vis s j c ms ch=true)(v:∀i,i<6->i≠j->K' i=K i)(o:j<6->K' j=c/\((c=710/\j≠3)\/c=752\/c=773\/(c=0/\j=3)))
 (F:p=!Nat.beq (K' 3) 0)(y:d=21\/d=22\/d=23):Wd d K' r l b/\St t al U l b:=by
 unfold nR at h
 rw[Bool.and_eq_true,Bool.and_eq_true,Bool.and_eq_true] at h
 obtain⟨z,x,D,n⟩:=h
 have u:∀i,i<N->i∉ms->b.get (al i)=U.get (al i):=λi a m=>g.fr _ (W.im.lt i (by rwa [cS])) λk n e=>by
  have:=W.im.inj k i (by rw[cS];exact dE (List.all_eq_true.mp x k n)) (by rwa [cS]) e
  exact m (this▸n)
 refine⟨⟨?_,λi a f=>?_,λi a=>?_,y⟩,g.st (by rcases W.ts with e|e|e<;>lia) x D⟩
 ·subst F
  exact W.im.step (cS _ _ _) g.im (dg _ _ _ _ _ _) (cS _ _ _) u g.kept (nP d y _ _) z
 ·by_cases e:i=j
  ·subst e
   obtain⟨e,P⟩:=o a
   rw[e] at f⊢
   have E:=iN i a
   refine g.im.has _ (.inst c (57+2*num i)) ?_
   unfold Mi.Ek
   cases C:Nat.beq c 0
   ·rw[cond_false,List.getElem?_set_self (by rw[lS,cS];unfold N;lia)]
   ·exact absurd (Nat.eq_of_beq_eq_true C) f
  ·have E:=iN i a
   have:=List.all_eq_true.mp n i (List.mem_range.mpr a)
   rw[Bool.or_eq_true,Bool.and_eq_true,Bool.and_eq_true] at this
   rcases this with q|⟨L,M,O⟩
   ·exact absurd (Nat.eq_of_beq_eq_true q) e
   ·rw[v i a e] at f⊢
    rw[g.kept _ (by unfold N;lia) (j6 M),g.kept _ (by unfold N;lia) (j6 O),u _ (by unfold N;lia) (j6 L)]
    exact W.ks i a f
 ·by_cases e:i=j
  ·subst e
   rw[(o a).1];exact(o a).2
  ·rw[v i a e];exact W.kv i a
noncomputable def Fr(m:List Nat)(al:Nat->Nat)(U a:Hp):Prop:=U.length<=a.length/\∀j,j<U.length->(∀i,i∈m->al i≠j)->a.get j=U.get j
noncomputable def dG(K:Nat->Nat)(j c:Nat)(i:Nat):Nat:=if i=j then c else K i
noncomputable def er(c:Nat):Nat:=bif Nat.beq c 0 then 0 else 752
noncomputable def qF(c:Nat)(k:Nat->Bool):Bool:=bif Nat.beq c 0 then k 0 else k 752
theorem DV{c k}:qF c k=k (er c):=by
 unfold qF er
 cases Nat.beq c 0<;>rfl
noncomputable def ic(j:Nat)(o:Bool):List Nat:=bif Nat.beq j 3 then(bif o then[752,773] else[0]) else[710,752,773]
theorem Wd.kind{t K w al U}(W:Wd t K w al U){j:Nat}(b:j<6):K j∈ic j (!Nat.beq (K 3) 0):=by
 unfold ic
 by_cases a:j=3
 ·subst a
  rcases W.kv 3 b with h|h|h|h<;>rw[show Nat.beq 3 3=true from rfl,cond_true]
  ·exact absurd rfl h.2
  ·rw[h];decide
  ·rw[h];decide
  ·rw[h.1];decide
 ·have:Nat.beq j 3=false:=by
   cases q:Nat.beq j 3
   ·rfl
   ·exact absurd (Nat.eq_of_beq_eq_true q) a
  rw[this,cond_false]
  rcases W.kv j b with h|h|h|h
  ·rw[h.1];decide
  ·rw[h];decide
  ·rw[h];decide
  ·exact absurd h.2 a
def j7(j:Nat):List Nat:=[57+2*num j,58+2*num j]
def vg(n j:Nat)(_:V)(G:Hp):Option (List (Nat×Nat)×List Nat):=(DP n j G).map λu=>(u,[])
noncomputable def nT(_:V)(_:Hp):Option (List (Nat×Nat)×List Nat):=some ([],[])
def j8(j:Nat):List Nat:=[0,1,8,9,10,97,98,99,100]++(iM [num j,20,0,5]++nJ [0,5])
def gu(E:List (Option O))(a:List V):Bool:=a.all (V.al (bT E.length))
def nU(o:Bool)(p c:Nat):Bool:=
 let j:=cu p
 let b:=(D p).fb N
 let E:=Ek 21 o true (j8 j) j c++b
 let a:=[.ref 98,(D p).fv N,.ref 1]
 let x:=RR.call 1792 a (cJ E)
 gu E a&&bif b9 p then j3 E [10,99,100] x else eB E (Ek 21 o true (j8 j) j (er c)++[]) N [10] (j7 j) (vg E.length j) none x
def nV(p:Nat):Bool:=[false,true].all λo=>(ic (cu p) o).all λc=>nU o p c
theorem DW:((List.range 12).map (0+·)).all nV=true:=by decide+kernel
theorem DX:((List.range 12).map (12+·)).all nV=true:=by decide+kernel
theorem DY:((List.range 12).map (24+·)).all nV=true:=by decide+kernel
theorem gw{f:Nat->Bool}{b p k:Nat}(h:((List.range k).map (b+·)).all f=true)(a:b<=p)(c:p<b+k):f p=true:=
 List.all_eq_true.mp h p (List.mem_map.mpr ⟨p-b,List.mem_range.mpr (Nat.sub_lt_left_of_lt_add a c),Nat.add_sub_of_le a⟩)
theorem DZ{p:Nat}(b:p<36):nV p=true:=by
 by_cases h:p<12;exact gw DW (by lia) (by omega)
 by_cases a:p<24;exact gw DX (by omega) (by omega)
 exact gw DY (by omega) (by omega)
theorem all2{f:Bool->Bool}(h:[false,true].all f=true)(o:Bool):f o=true:=List.all_eq_true.mp h o (by cases o<;>decide)
theorem vh{p:Nat}(a:p<36)(o:Bool){c:Nat}(h:c∈ic (cu p) o):nU o p c=true:=List.all_eq_true.mp (all2 (DZ a) o) c h
def D0:Bool:=[21,22,23].all λt=>[false,true].all λo=>(List.range 6).all λj=>(ic j o).all λc=>qF c λa=>nR t o true t o true (j8 j) 21 j a [10] (j7 j)
theorem D1:D0=true:=by decide+kernel
theorem vi:(List.range 6).all (λj=>iO (j8 j))=true:=by decide+kernel
theorem iP{p:Nat}(h:p<72):cu p<6:=by
 unfold cu
 cases e:bT 36 p
 ·rw[cond_false];exact Nat.div_lt_of_lt_mul (Nat.lt_of_le_of_lt (Nat.sub_le_sub_right (Nat.le_of_lt_succ h) 36) (by decide))
 ·rw[cond_true];exact Nat.div_lt_of_lt_mul (dE e)
theorem D2{j c:Nat}{o}(h:c∈ic j o):(er c=710/\j≠3)\/er c=752\/er c=773\/(er c=0/\j=3):=by
 unfold ic at h
 cases e:Nat.beq j 3
 ·rw[e,cond_false] at h
  simp only[List.mem_cons,List.not_mem_nil,or_false] at h
  rcases h with rfl|rfl|rfl<;>exact .inr (.inl rfl)
 ·have:=Nat.eq_of_beq_eq_true e
  rw[e,cond_true] at h
  cases o
  ·rw[cond_false,List.mem_singleton] at h;subst h;exact .inr (.inr (.inr ⟨rfl,this⟩))
  ·rw[cond_true] at h
   simp only[List.mem_cons,List.not_mem_nil,or_false] at h
   rcases h with rfl|rfl<;>exact .inr (.inl rfl)
theorem D3{K:Nat->Nat}{j:Nat}(h:K j∈ic j (!Nat.beq (K 3) 0)):(!Nat.beq (K 3) 0)=!Nat.beq (dG K j (er (K j)) 3) 0:=by
 unfold dG
 by_cases e:3=j
 ·subst e
  rw[if_pos rfl]
  unfold er
  cases Nat.beq (K 3) 0<;>rfl
 ·rw[if_neg e]
theorem three{t:Nat}(h:t=21\/t=22\/t=23):t∈[21,22,23]:=by rcases h with rfl|rfl|rfl<;>decide
section
variable{q:Option (Nat×List V)}{n t:Nat}{K:Nat->Nat}{al xs:Nat->Nat}{U:Hp}{p:Nat}
theorem D4(s:150<=n)(u:p<36)(W:Wd t K true al U)(b:bR ((D p).fb N) al xs U)(k:b9 p=true):
 ∃a,(run (TA q) n).call 1792 ([.ref 98,(D p).fv N,.ref 1].map (V.mp (cat al xs))) U=some (.exc a)/\Fr [10,99,100] al U a:=by
 have h:=iP (p:=p) (by lia)
 have o:=W.kind h
 have c:=vh u _ o
 unfold nU at c
 simp only[k,cond_true,Bool.and_eq_true] at c
 obtain⟨m,c⟩:=c
 have v:21<=t:=by rcases W.ts with e|e|e<;>omega
 obtain⟨d,g⟩:=W.ek (vis:=j8 (cu p)) (.inl rfl) v (.inr (List.all_eq_true.mp vi _ (List.mem_range.mpr h))) (.inr ⟨h,rfl⟩)
 obtain⟨a,y,i,j⟩:=nO d b (dg _ _ _ _ _ _) g (by decide) (λf r l=>eE s m f r l) c
 exact⟨a,y,i,j⟩
def j9(j:Nat):List Nat:=[0,1,8,9,10]++iM [num j,21,22]
def nW(o:Bool)(p:Nat):Bool:=
 let j:=cu p
 let b:=(D p).fb N
 let E:=Ek (cX p) o true (j9 j) j 0++b
 let a:=[(D p).fv N,.ref 1]
 let x:=RR.call 1799 a (cJ E)
 gu E a&&bif b9 p then j3 E [10] x else Nat.beq (cX p) 23&&eB E (Ek (cX p) (o||Nat.beq j 3) true (j9 j) j 773++[]) N [10] (j7 j) (vg E.length j) (some .none) x
def qG(p:Nat):Bool:=[false,true].all λo=>nW o p
theorem D5:((List.range 18).map (36+·)).all qG=true:=by decide+kernel
theorem D6:((List.range 18).map (54+·)).all qG=true:=by decide+kernel
theorem D7{p:Nat}(h:36<=p)(b:p<72):qG p=true:=by
 by_cases a:p<54;exact gw D5 (by omega) (by omega)
 exact gw D6 (by omega) (by omega)
theorem vj{p:Nat}(h:36<=p)(a:p<72)(o:Bool):nW o p=true:=all2 (D7 h a) o
def D8:Bool:=[false,true].all λo=>(List.range 6).all λj=>nR 23 o true 23 (o||Nat.beq j 3) true (j9 j) 23 j 773 [10] (j7 j)
theorem D9:D8=true:=by decide+kernel
theorem vk:(List.range 6).all (λj=>iO (j9 j))=true:=by decide+kernel
theorem qH(p:Nat):cX p=21\/cX p=22\/cX p=23:=by
 unfold cX
 cases Nat.beq (cR p) 1
 ·exact .inl rfl
 ·rw[cond_true]
  split
  ·exact .inr (.inl rfl)
  ·exact .inl rfl
  ·exact .inr (.inr rfl)
theorem D_{K:Nat->Nat}{j:Nat}:((!Nat.beq (K 3) 0)||Nat.beq j 3)=!Nat.beq (dG K j 773 3) 0:=by
 unfold dG
 by_cases e:3=j
 ·subst e
  rw[if_pos rfl]
  cases Nat.beq (K 3) 0<;>rfl
 ·rw[if_neg e]
  have:Nat.beq j 3=false:=by
   cases q:Nat.beq j 3
   ·rfl
   ·exact absurd (Nat.eq_of_beq_eq_true q).symm e
  rw[this,Bool.or_false]
theorem Ea(s:150<=n)(h:36<=p)(u:p<72)(W:Wd t K true al U)(v:cX p<=t)(b:bR ((D p).fb N) al xs U)(k:b9 p=true):
 ∃a,(run (TA q) n).call 1799 ([(D p).fv N,.ref 1].map (V.mp (cat al xs))) U=some (.exc a)/\Fr [10] al U a:=by
 have o:=iP (p:=p) (by omega)
 have c:=vj h u (!Nat.beq (K 3) 0)
 unfold nW at c
 simp only[k,cond_true,Bool.and_eq_true] at c
 obtain⟨m,c⟩:=c
 obtain⟨e,d⟩:=W.ek (vis:=j9 (cu p)) (qH p) v (.inr (List.all_eq_true.mp vk _ (List.mem_range.mpr o))) (j:=cu p) (.inl rfl)
 obtain⟨a,y,g,i⟩:=nO e b (dg _ _ _ _ _ _) d (by decide) (λf r l=>eE (q:=q) s m f r l) c
 exact⟨a,y,g,i⟩
def nX(t:Nat)(o w:Bool)(a:Nat)(b:Bool)(M2:List (Option O))(m c:List Nat):Bool:=
 h_ m c (Ew t o w) M2 0 (Ew a o b)&&(m.all (bT N)&&(qE t c&&([0,1,2,3,4,5].all λi=>!mem (58+2*num i) m&&(!mem (58+2*num i) c&&!mem (57+2*num i) c))))
theorem Wd.vm{t K w al U b o M2 B l ys a ms ch}(W:Wd t K w al U)(g:Go al U M2 B l ys a ms ch)(M:M2.length=N)
 (h:nX t (!Nat.beq (K 3) 0) w b o M2 ms ch=true)(n:b=21\/b=22\/b=23):Wd b K o l a/\St t al U l a:=by
 unfold nX at h
 rw[Bool.and_eq_true,Bool.and_eq_true,Bool.and_eq_true] at h
 obtain⟨q,j,r,d⟩:=h
 have f:∀i,i<N->i∉ms->a.get (al i)=U.get (al i):=λi c m=>g.fr _ (W.im.lt i (by rwa [cS])) λk d e=>by
  have:=W.im.inj k i (by rw[cS];exact dE (List.all_eq_true.mp j k d)) (by rwa [cS]) e
  exact m (this▸d)
 refine⟨⟨W.im.step (cS _ _ _) g.im M (cS _ _ _) f g.kept (nP b n _ _) q,λi c p=>?_,W.kv,n⟩,g.st (by rcases W.ts with e|e|e<;>lia) j r⟩
 have s:=iN i c
 have:=List.all_eq_true.mp d i (List.mem_range.mpr c)
 rw[Bool.and_eq_true,Bool.and_eq_true] at this
 rw[g.kept _ (by unfold N;lia) (j6 this.2.1),g.kept _ (by unfold N;lia) (j6 this.2.2),f _ (by unfold N;lia) (j6 this.1)]
 exact W.ks i c p
theorem Wd.le{t K w al U M}(W:Wd t K w al U)(a:M.length=N)(h:dP M (Ew t (!Nat.beq (K 3) 0) w)=true):Im M al U/\dF N M=true:=by
 refine⟨W.im.mono (by rw[a,cS];exact Nat.le_refl _) λi o e=>jq h e,?_⟩
 refine iL.mpr λo c=>?_
 cases o with
 |none=>rfl
 |some o=>
  obtain⟨i,b⟩:=List.mem_iff_getElem?.mp c
  exact lL (nP t W.ts _ _) (jq h b)
def nY:List Nat:=[0,1,2,3,4,5]++iM [21,22]
def Eb(t:Nat)(G:Hp):Option (List (Nat×Nat)):=match G.get 4 with
 |some (.list s)=>(s.drop t).foldr (λv r=>match r,v with
  |some r,.ref i=>match G.get i with
   |some (.inst a d)=>some ((d,i)::r)
   |_=>none
  |_,_=>none) (some [])
 |_=>none
noncomputable def vp:Nat->List (Nat×Nat)->List (Nat×Nat)
 |_,[]=>[]
 |t,p::r=>(11+2*t,p.1)::(12+2*t,p.2)::vp (Nat.succ t) r
noncomputable def qI(a b:Nat):Nat:=bif Nat.ble a b then b else a
def Ec(t p:Nat)(v:V)(G:Hp):Option (List (Nat×Nat)×List Nat):=match Eb t G,(D p).col G v with
 |some u,some e=>some (vp t u,e)
 |_,_=>none
def vw(t a:Nat):List Nat:=iM (cY (a-t) t)
noncomputable def nZ(t a:Nat):List Nat:=bif Nat.beq t a then[] else[4,5]
def vx(t p:Nat):Bool:=
 let a:=qI t (cX p)
 let b:=(D p).gb false N
 let E:=Ek t false false nY 6 0++b
 let s:=[.ref 1,(D p).gv N]
 gu E s&&eB E (Ek a false false nY 6 0++(D p).fb N) N (nZ t a) (vw t a) (Ec t p) (some ((D p).fv N)) (RR.call 1915 s (cJ E))
def jr(p:Nat):Bool:=[21,22,23].all λt=>vx t p
theorem Ed:((List.range 13).map (0+·)).all jr=true:=by decide+kernel
theorem Ee:((List.range 13).map (13+·)).all jr=true:=by decide+kernel
theorem Ef:((List.range 13).map (26+·)).all jr=true:=by decide+kernel
theorem Eg:((List.range 13).map (39+·)).all jr=true:=by decide+kernel
theorem Eh:((List.range 13).map (52+·)).all jr=true:=by decide+kernel
theorem Ej:((List.range 13).map (65+·)).all jr=true:=by decide+kernel
theorem El{p:Nat}(e:p<78):jr p=true:=by
 by_cases h:p<13;exact gw Ed (by lia) (by omega)
 by_cases a:p<26;exact gw Ee (by omega) (by omega)
 by_cases b:p<39;exact gw Ef (by omega) (by omega)
 by_cases c:p<52;exact gw Eg (by omega) (by omega)
 by_cases d:p<65;exact gw Eh (by omega) (by omega)
 exact gw Ej (by omega) (by omega)
def Em:Bool:=[21,22,23].all λt=>[false,true].all λo=>dP (Ek t false false nY 6 0) (Ew t o false)
theorem Eo:Em=true:=by decide+kernel
def Ep:Bool:=[21,22,23].all λt=>[21,22,23].all λa=>[false,true].all λo=>!Nat.ble t a||nX t o false a false (Ek a false false nY 6 0) (nZ t a) (vw t a)
theorem Er:Ep=true:=by decide+kernel
theorem Es(a b:Nat):qI a b=max a b:=by
 unfold qI
 cases h:Nat.ble a b
 ·rw[cond_false]
  have:¬a<=b:=λq=>by rw[Nat.ble_eq_true_of_le q] at h;cases h
  lia
 ·have:=Nat.le_of_ble_eq_true h
  rw[cond_true];lia
theorem Et{t p:Nat}(h:t=21\/t=22\/t=23)(k:p=21\/p=22\/p=23):max t p=21\/max t p=22\/max t p=23:=by
 rcases Nat.le_total t p with e|e
 ·rw[Nat.max_eq_right e];exact k
 ·rw[Nat.max_eq_left e];exact h
theorem vz{t:Nat}(p:Nat)(h:t=21\/t=22\/t=23):max t (cX p)=21\/max t (cX p)=22\/max t (cX p)=23:=by
 exact Et h (qH p)
theorem Eu{t a}:(nZ t a).all (bT N)=true:=by unfold nZ;cases Nat.beq t a<;>rfl
theorem vA(o:150<=n)(u:p<78)(W:Wd t K false al U)(b:bR ((D p).gb false N) al xs U):
 ∃c a ys,(run (TA q) n).call 1915 ([.ref 1,(D p).gv N].map (V.mp (cat al xs))) U=some (.ok (((D p).fv N).mp (cat a ys)) c)/\Wd (max t (cX p)) K false a c/\bR ((D p).fb N) a ys c/\St t al U a c:=by
 have k:=List.all_eq_true.mp (El u) t (three W.ts)
 unfold vx at k
 simp only[Bool.and_eq_true] at k
 obtain⟨m,k⟩:=k
 obtain⟨i,j⟩:=W.le (dg _ _ _ _ _ _) (all2 (List.all_eq_true.mp Eo t (three W.ts)) _)
 obtain⟨v,c,a,ys,y,g,w⟩:=go i b (dg _ _ _ _ _ _) j (dg _ _ _ _ _ _) Eu (λf r l=>eE (q:=q) o m f r l) k
 rw[w _ rfl] at y
 rw[Es] at g
 have d:=all2 (List.all_eq_true.mp (List.all_eq_true.mp Er t (three W.ts)) _ (three (vz p W.ts))) (!Nat.beq (K 3) 0)
 rw[Bool.or_eq_true,Bool.not_eq_true'] at d
 rcases d with h|h
 ·rw[Nat.ble_eq_true_of_le (Nat.le_max_left _ _)] at h;cases h
 obtain⟨e,s⟩:=W.vm g (dg _ _ _ _ _ _) h (vz p W.ts)
 exact⟨c,a,ys,y,e,g.lR,s⟩
theorem vC{q n v as E g U}{al:Nat->Nat}(c:150<=n)(a:as.all (V.al (bT E))=true)(f:Nat->Nat){G}(r:Rel f g G U)(b:∀i,i<E->f i=al i)(d:v.gq=true):
 RO f g (V.mp f) (RR.dJ v as G) ((run (TA q) n).dJ v (as.map (V.mp al)) U):=by
 have:=(nE (same q) c).dJ v as _ _ r
 rwa [Vs.dM (p:=bT E) (g:=al) (λi h=>b i (dE h)) a,V.lJ d] at this
def vD:Bool:=
 let E:=Ek 21 false false [] 6 0++[]
 gu E [.ref 1]&&eB E (Ek 21 false true [97,98,99,100] 6 0++[]) N [] [97,98,99,100] (λv G=>match v with
  |.ref i=>match G.get i with
   |some (.inst c d)=>match G.get d with
    |some (.dict e)=>match cb (.str (z "jobs")) e,cb (.str (z "nodes")) e with
     |some (.ref a),some (.ref b)=>some ([(97,d),(98,i),(99,a),(100,b)],[])
     |_,_=>none
    |_=>none
   |_=>none
  |_=>none) (some (.ref 98)) (RR.dJ (.old 1781) [.ref 1] (cJ E))
theorem Ex:vD=true:=by decide+kernel
def Ey:Bool:=[21,22,23].all λt=>[false,true].all λo=>dP (Ek 21 false false [] 6 0) (Ew t o false)&&nX t o false t true (Ek 21 false true [97,98,99,100] 6 0) [] [97,98,99,100]
theorem Ez:Ey=true:=by decide+kernel
end
noncomputable def lT(E:List (Option O)):List (Option O):=E.map λa=>none
def js(E:List (Option O))(m:List Nat)(w:V)(x:Option (R V)):Bool:=eB E (lT E) E.length m [] nT (some w) x
theorem lU{M B al xs U ms w x}{y:Option (R V)}(s:Im M al U)(b:bR B al xs U)(e:M.length=N)(g:dF N M=true)(m:ms.all (bT N)=true)
 (t:∀f,Rel f U.get (cJ (M++B)) U->(∀i,i<(M++B).length->f i=cat al xs i)->RO f U.get (V.mp f) x y)
 (c:js (M++B) ms w x=true):∃a,y=some (.ok (w.mp (cat al xs)) a)/\Fr ms al U a:=by
 have o:w.al (bT (M++B).length)=true:=by
  unfold js eB at c
  split at c
  ·split at c
   ·rw[Bool.and_eq_true] at c
    have:=c.2
    dsimp only at this
    rw[Bool.and_eq_true] at this
    unfold lT at this
    rw[List.length_map] at this
    exact this.1
   ·ext c
  ·ext c
 obtain⟨v,a,l,q,r,n⟩:=j4 (s.merge b e g) t c
 refine⟨a,?_,r.le,λj k h=>r.fr j k λi d=>?_⟩
 ·rw[q,n w rfl]
  congr 2
  exact V.dM (p:=bT (M++B).length) (λi d=>r.kept i (dE d) (List.not_mem_nil)) o
 ·rw[b8 (dE (List.all_eq_true.mp m i d))];exact h i d
theorem Fr.nil{al U a}(h:Fr [] al U a):∀j,j<U.length->a.get j=U.get j:=λj c=>h.2 j c λi b=>absurd b (List.not_mem_nil)
theorem Fr.st{t al U a}(h:Fr [] al U a):St t al U al a:=⟨h.1,λj b c=>h.nil j b,λc d e=>rfl,λc d=>rfl⟩
theorem Im.grow{E al U a}(m:Im E al U)(h:Fr [] al U a):Im E al a:=⟨m.inj,λi b=>Nat.lt_of_lt_of_le (m.lt i b) h.1,λi o e=>by
 rw[h.nil _ (m.lt i (List.getElem?_eq_some_iff.mp e).1)];exact m.has i o e⟩
theorem Wd.grow{t K w al U a}(W:Wd t K w al U)(h:Fr [] al U a):Wd t K w al a:=⟨W.im.grow h,λj b c=>by
 have:=iN j b
 rw[h.nil _ (W.im.lt _ (by rw[cS];unfold N;lia))];exact W.ks j b c,W.kv,W.ts⟩
theorem bR.grow{B al xs U a}(b:bR B al xs U)(h:Fr [] al U a):bR B al xs a:=⟨b.inj,λi c=>Nat.lt_of_lt_of_le (b.lt i c) h.1,b.jo,λi o e=>by
 rw[h.nil _ (b.lt i (List.getElem?_eq_some_iff.mp e).1)];exact b.has i o e⟩
theorem bR.le{B a al xs U}(b:bR B al xs U)(h:dP a B=true):bR a al xs U:=by
 have l:∀{a B:List (Option O)},dP a B=true->a.length<=B.length:=by
  intro a
  induction a with
  |nil=>intro B g;exact Nat.zero_le _
  |cons x r d=>
   intro B h
   cases B with
   |nil=>simp[dP] at h
   |cons y s=>
    rw[List.length_cons,List.length_cons]
    cases x with
    |none=>exact Nat.succ_le_succ (d h)
    |some x=>rw[dP,Bool.and_eq_true] at h;exact Nat.succ_le_succ (d h.2)
 have l:=l h
 exact⟨λi j c f=>b.inj i j (by omega) (by omega),λi c=>b.lt i (by omega),λi j c f=>b.jo i j c (by omega),λi o e=>b.has i o (jq h e)⟩
def j_(h:Nat):List (Option O):=[some (.dict [(.str (z "car"),.ref (12+2*h)),(.str (z "cdr"),.ref (N+3)),(.str (z "mark"),.none)]),some (.inst 482 N),none,none]
def qJ(h:Nat):List Nat:=[8,9,10]++(iM [h]++nJ [h])
def lV:List V:=[.ref 98,.ref (N+1),.ref 9]
def lW:List V:=[.ref (N+1),.ref 9]
def vE(o:Bool)(h:Nat):Bool:=
 let E:=Ek 21 o true (qJ h) 6 0++j_ h
 gu E lV&&(gu E lW&&(js E [] (.ref (N+1)) (RR.call 1752 lV (cJ E))&&
  js E [] (.str (nm h)) (RR.call 1677 lW (cJ E))))
def EA:Bool:=[false,true].all λo=>[0,4,5,6].all λh=>vE o h&&(iO (qJ h))
theorem EB:EA=true:=by decide+kernel
def vF(o:Bool)(v:V):Bool:=
 let E:=Ek 21 o true [8,9,10,19,20,51,52] 6 0++[]
 gu E [.ref 98,v,.ref 9]&&(gu E [v,.ref 9]&&(js E [] v (RR.call 1752 [.ref 98,v,.ref 9] (cJ E))&&js E [] .none (RR.call 1677 [v,.ref 9] (cJ E))))
noncomputable def atoms:List V:=[.int 8,.old 374,.ref 20,.ref 52]
def allAt:Bool:=[false,true].all λo=>atoms.all λv=>vF o v
theorem ED:allAt=true:=by decide+kernel
section
variable{q:Option (Nat×List V)}{n t:Nat}{K:Nat->Nat}{al xs:Nat->Nat}{U:Hp}{p:Nat}
theorem qK(k:150<=n)(W:Wd t K true al U){h:Nat}(p:h∈[0,4,5,6])(b:bR (j_ h) al xs U):
 (∃a,(run (TA q) n).call 1752 (lV.map (V.mp (cat al xs))) U=some (.ok (.ref (xs 1)) a)/\Fr [] al U a)/\
 (∃a,(run (TA q) n).call 1677 (lW.map (V.mp (cat al xs))) U=some (.ok (.str (nm h)) a)/\Fr [] al U a):=by
 have c:=List.all_eq_true.mp (all2 EB (!Nat.beq (K 3) 0)) h p
 unfold vE at c
 simp only[Bool.and_eq_true] at c
 obtain⟨⟨u,v,l,m⟩,o⟩:=c
 have s:21<=t:=by rcases W.ts with e|e|e<;>omega
 obtain⟨g,i⟩:=W.ek (vis:=qJ h) (.inl rfl) s (.inr o) (j:=6) (.inl rfl)
 exact⟨lU g b (dg _ _ _ _ _ _) i (by decide) (λf r d=>eE (q:=q) k u f r d) l,lU g b (dg _ _ _ _ _ _) i (by decide) (λf r d=>eE (q:=q) k v f r d) m⟩
theorem EE(m:150<=n)(W:Wd t K true al U){v:V}(d:v∈atoms):
 (∃a,(run (TA q) n).call 1752 [.ref (al 98),v.mp al,.ref (al 9)] U=some (.ok (v.mp al) a)/\Fr [] al U a)/\
 (∃a,(run (TA q) n).call 1677 [v.mp al,.ref (al 9)] U=some (.ok .none a)/\Fr [] al U a):=by
 have c:=List.all_eq_true.mp (all2 ED (!Nat.beq (K 3) 0)) v d
 unfold vF at c
 simp only[Bool.and_eq_true] at c
 obtain⟨u,w,o,p⟩:=c
 have s:21<=t:=by rcases W.ts with e|e|e<;>omega
 obtain⟨g,i⟩:=W.ek (vis:=[8,9,10,19,20,51,52]) (.inl rfl) s (.inr (by decide)) (j:=6) (.inl rfl)
 have l:v.mp (cat al al)=v.mp al:=by
  simp only[atoms,List.mem_cons,List.not_mem_nil,or_false] at d
  rcases d with rfl|rfl|rfl|rfl<;>rfl
 have h:=lU g (bR.nil (xs:=al)) (dg _ _ _ _ _ _) i (by decide) (λf r b=>eE (q:=q) m u f r b) o
 have k:=lU g (bR.nil (xs:=al)) (dg _ _ _ _ _ _) i (by decide) (λf r b=>eE (q:=q) m w f r b) p
 rw[l] at h
 simp only[List.map_cons,List.map_nil,l] at h k
 exact⟨h,k⟩
def bodyOf(a:Nat):List Stmt:=match Tt.tb.fn a with
 |some f=>f.body
 |none=>[]
def dh(a:Nat):List (Str×NameKind):=match Tt.tb.fn a with
 |some f=>f.sc.names
 |none=>[]
def hd(a i:Nat):Stmt:=(bodyOf a).getD i default
noncomputable def eu:Stmt->Expr
 |.While t a b c=>t
 |_=>default
noncomputable def cT:Stmt->List Stmt
 |.While a b c d=>b
 |_=>[]
noncomputable def cU:Stmt->List Stmt
 |.For a c b d e=>b
 |_=>[]
noncomputable def bW:Stmt->Expr
 |.Assign a e b=>e
 |.Return (some e) a=>e
 |.Expr e a=>e
 |.If e a b c=>e
 |_=>default
noncomputable def dv:Stmt->List Stmt
 |.If a b c d=>b
 |_=>[]
noncomputable def d_:Stmt->List Stmt
 |.If a c b d=>b
 |_=>[]
noncomputable def vG:Expr->List Expr
 |.Call b a c d=>a
 |_=>[]
variable{T:Tb}{Y:En}{s:Stmt}{r:List Stmt}{G A:Hp}{Q:List (Str×V)}{v:V}
theorem bJ(h:(run T n).ex Y s G=some (.ok .next Q A)):(run T (n+1)).ax Y (s::r) G=(run T n).ax ⟨Y.sc,Q,Y.bF⟩ r A:=by
 refine(?_:hG ((run T n).ex Y s G) _=_)
 rw[h];rfl
theorem gP(h:(run T n).ex Y s G=some (.ok (.ret v) Q A)):(run T (n+1)).ax Y (s::r) G=some (.ok (.ret v) Q A):=by
 refine(?_:hG ((run T n).ex Y s G) _=_)
 rw[h];rfl
theorem n_(h:(run T n).ex Y s G=some (.exc Q A)):(run T (n+1)).ax Y (s::r) G=some (.exc Q A):=by
 refine(?_:hG ((run T n).ex Y s G) _=_)
 rw[h];rfl
theorem vH{F:Fs}{i:Nat}{xs:List V}{a:Str}{s:List Expr}(h:G.get i=some (.list xs)):fQ T F Y (.ref i) a s G=
 match f9 a with
  |1=>bd (F.bL Y s G) λv G=>cf T (.ref i) 1 v G
  |2=>bd (F.bL Y s G) λv G=>cf T (.ref i) 2 v G
  |3=>bd (F.bL Y s G) λv G=>cf T (.ref i) 3 v G
  |_=>.none:=by
 unfold fQ
 simp only[h]
 try rfl
theorem Hp.eT{G:Hp}{o:O}{j:Nat}(h:j<G.length):(G.push o).get j=G.get j:=by
 rw[Hp.hJ,if_neg (by omega)]
theorem eF{k:Nat}(h:k<4096):bS k=true:=Nat.ble_eq_true_of_le h
theorem EF{k:Nat}(h:k<900):kG k=true:=Nat.ble_eq_true_of_le h
end
section
variable{T:Tb}{n i:Nat}{Y en':En}{elt:Expr}{x:Str}{ifs:List Expr}{src:Src}{I:List V}{G H σ'':Hp}{v y:V}{b:List Stmt}{Q:List (Str×V)}
theorem ka(h:cz T G src i=some none):(run T (n+1)).comp Y elt x ifs src i I G=some (.ok I G):=by
 show gJ T (run T n) Y elt x ifs src i I G=_
 unfold gJ
 rw[h];rfl
theorem jt(h:cz T G src i=some (some v))(s:bZ Y G x v=some (en',H))(t:(run T n).tests en' ifs H=some (.ok true H))(o:I.length<4096)
 (e:(run T n).ev en' elt H=some (.ok y σ'')):(run T (n+1)).comp Y elt x ifs src i I G=(run T n).comp en' elt x ifs src (i+1) (y::I) σ'':=by
 show gJ T (run T n) Y elt x ifs src i I G=_
 unfold gJ
 simp only[h,Option.bind_some,mr,pe,s,t,bd,i_,e,eF o,if_true]
theorem EG(h:cz T G src i=some (some v))(s:bZ Y G x v=some (en',H))(t:(run T n).tests en' ifs H=some (.ok false σ'')):
 (run T (n+1)).comp Y elt x ifs src i I G=(run T n).comp en' elt x ifs src (i+1) I σ'':=by
 show gJ T (run T n) Y elt x ifs src i I G=_
 unfold gJ
 simp only[h,Option.bind_some,mr,pe,s,t,bd,i_]
theorem og(h:cz T G src i=some none):(run T (n+1)).fr Y x b src i G=some (.ok .next Y.loc G):=by
 show iE T (run T n) Y x b src i G=_
 unfold iE
 simp only[h]
theorem oh(h:cz T G src i=some (some v))(s:bZ Y G x v=some (en',H))(a:(run T n).ax en' b H=some (.ok .next Q σ'')):
 (run T (n+1)).fr Y x b src i G=(run T n).fr ⟨en'.sc,Q,en'.bF⟩ x b src (i+1) σ'':=by
 show iE T (run T n) Y x b src i G=_
 unfold iE
 simp only[h,s,a,dS];rfl
end
noncomputable def dj:Expr->Expr
 |.ListComp e a b c=>e
 |_=>default
noncomputable def iQ:Expr->List Expr
 |.ListComp a [⟨b,c,ifs,d⟩] e f=>ifs
 |_=>[]
noncomputable def bU:Expr->Scope
 |.ListComp a b s c=>s
 |_=>default
section
variable{q:Option (Nat×List V)}{n:Nat}
abbrev dL(d m:Nat):List (Str×V):=[(z "deck",.ref d),(z "many",int m)]
abbrev dU(d m:Nat):En:=⟨dh 1910,dL d m,[]⟩
abbrev dT:=eu (hd 1910 0)
abbrev dB:=cT (hd 1910 0)
theorem qL(d m:Nat)(G:Hp):(run (TA q) (n+8)).ev (dU d m) dT G=
 bd ((cmp (TA q) (G.push (.list [])) .NotEq (.ref d) (.ref G.length)).map λc=>.ok (.bool c) (G.push (.list []))) λv A=>
  bX (truth v) (bd (bd ((sub (TA q) A (.ref d) (.int 0)).map λx=>.ok x A) λa G=>(cmp (TA q) G .Eq a (.int 0)).map λc=>.ok (.bool c) G) λv G=>(truth v).map λb=>.ok v G) (some (.ok v A)):=by rfl'
theorem EH(d m:Nat)(G:Hp):(run (TA q) (n+8)).ax (dU d m) dB G=match(lift (dU d m) (fQ (TA q) (run (TA q) (n+5)) (dU d m) (.ref d) (z "pop") (vG (bW (dB.getD 0 default))) G) λv G=>if noRef v then some (.ok .next (dL d m) G) else none) with
 |some (.ok f Q G)=>match f with
  |.next=>some (.ok .next Q G)
  |f=>some (.ok f Q G)
 |x=>x:=by rfl'
theorem EI(d m:Nat)(G:Hp):(run (TA q) (n+5)).bL (dU d m) (vG (bW (dB.getD 0 default))) G=some (.ok [.int 0] G):=by rfl'
theorem qM(d m:Nat)(G:Hp):(run (TA q) (n+9)).cA (dU d m) dT dB G=lift (dU d m) ((run (TA q) (n+8)).ev (dU d m) dT G) λv G=>bX (truth v) (dS ((run (TA q) (n+8)).ax (dU d m) dB G) λQ G=>(run (TA q) (n+8)).cA ⟨dh 1910,Q,[]⟩ dT dB G) (some (.ok .next (dL d m) G)):=by rfl'
theorem EJ(d m:Nat)(G:Hp):(run (TA q) (n+10)).ex (dU d m) (hd 1910 0) G=(run (TA q) (n+9)).cA (dU d m) dT dB G:=by rfl'
theorem EK(d m:Nat)(G:Hp):(run (TA q) (n+9)).ex (dU d m) (hd 1910 1) G=
 lift (dU d m) ((cmp (TA q) (G.push (.list [])) .Eq (.ref d) (.ref G.length)).map λc=>.ok (.bool c) (G.push (.list []))) λv G=>bX (truth v) (some (.ok (.ret (.int 0)) (dL d m) G)) (some (.ok .next (dL d m) G)):=by rfl'
theorem EL(d m:Nat)(G:Hp):(run (TA q) (n+8)).ex (dU d m) (hd 1910 2) G=
 lift (dU d m) (bd ((sub (TA q) G (.ref d) (.int 0)).map λx=>.ok x G) λa G=>bin .Mod G a (int m) (TA q).bO) λv G=>some (.ok .next (dL d m++[(z "found",v)]) G):=by rfl'
theorem EM(d m:Nat)(v:V)(G:Hp):(run (TA q) (n+7)).ex ⟨dh 1910,dL d m++[(z "found",v)],[]⟩ (hd 1910 3) G=
 lift ⟨dh 1910,dL d m++[(z "found",v)],[]⟩ (bd ((sub (TA q) G (.ref d) (.int 0)).map λx=>.ok x G) λa G=>bin .FloorDiv G a (int m) (TA q).bO) λb G=>d0 ⟨dh 1910,dL d m++[(z "found",v)],[]⟩ (fj G (.ref d) (.int 0) b):=by rfl'
theorem EN(d m:Nat)(v:V)(G:Hp):(run (TA q) (n+6)).ex ⟨dh 1910,dL d m++[(z "found",v)],[]⟩ (hd 1910 4) G=some (.ok (.ret v) (dL d m++[(z "found",v)]) G):=by rfl'
theorem EP(d m:Nat)(G:Hp):(run (TA q) (n+12)).call 1910 [.ref d,int m] G=callEnd ((run (TA q) (n+11)).ax (dU d m) [hd 1910 0,hd 1910 1,hd 1910 2,hd 1910 3,hd 1910 4] G):=by rfl'
noncomputable def DK(G:Hp)(d:Nat)(l:List Nat):Prop:=G.get d=some (.list (l.map int))
noncomputable def bN(d:Nat)(G H:Hp):Prop:=G.length<=H.length/\∀j,j<G.length->j≠d->H.get j=G.get j
theorem bN.refl(d G):bN d G G:=⟨Nat.le_refl _,λa b c=>rfl⟩
theorem bN.trans{d G A c}(a:bN d G A)(b:bN d A c):bN d G c:=⟨Nat.le_trans a.1 b.1,λj e h=>by rw[b.2 j (Nat.lt_of_lt_of_le e a.1) h,a.2 j e h]⟩
theorem bN.push(d:Nat)(G:Hp)(o:O):bN d G (G.push o):=⟨by rw[Hp.length_push];lia,λj h a=>Hp.eT h⟩
theorem bN.set(d:Nat)(G:Hp)(o:O):bN d G (G.set d o):=⟨by rw[Hp.length_set];lia,λj a h=>by rw[Hp.get_set,if_neg h]⟩
theorem oi{d:Nat}{l:List Nat}{G:Hp}(h:DK G d l):cmp (TA q) (G.push (.list [])) .Eq (.ref d) (.ref G.length)=some l.isEmpty/\cmp (TA q) (G.push (.list [])) .NotEq (.ref d) (.ref G.length)=some (!l.isEmpty):=by
 have e:ec (G.push (.list [])) (.ref d) (.ref G.length)=some l.isEmpty:=by
  unfold ec
  simp only[Hp.cB,Hp.eT (Hp.cj h),h.trans rfl]
  cases l with
  |nil=>rfl
  |cons a l=>rfl
 refine⟨e,?_⟩
 show(ec _ _ _).map _=_
 rw[e];rfl
theorem om{d a:Nat}{l:List Nat}{G:Hp}(h:DK G d (a::l)):sub (TA q) G (.ref d) (.int 0)=some (int a):=by
 show(match G.get d with|some (.list xs)=>some xs|some (.tup xs)=>some xs|_=>none).bind (λxs=>xs[0]?)=_
 rw[show G.get d=_ from h];rfl
theorem DK.push{G:Hp}{d:Nat}{l:List Nat}(h:DK G d l)(o:O):DK (G.push o) d l:=by
 unfold DK at*
 rw[Hp.eT (Hp.cj h)];exact h
theorem ES{d m:Nat}(l:List Nat)(n:Nat)(G:Hp)(g:l.length<=14)(h:DK G d l)(i:l.length<=n):
 ∃H c,(run (TA q) (n+9)).cA (dU d m) dT dB G=some (.ok .next (dL d m) H)/\DK H d c/\c.length<=14/\bN d G H:=by
 induction l generalizing n G with
 |nil=>
  refine⟨G.push (.list []),[],?_,h.push _,Nat.zero_le _,bN.push _ _ _⟩
  rw[qM,qL,(oi h).2];rfl
 |cons a l u=>
  have b:=h.push (.list [])
  cases a with
  |succ a=>
   refine⟨G.push (.list []),(a+1)::l,?_,b,g,bN.push _ _ _⟩
   rw[qM,qL,(oi h).2]
   show lift _ (bd (bd ((sub (TA q) (G.push (.list [])) (.ref d) (.int 0)).map _) _) _) _=_
   rw[om b];rfl
  |zero=>
   obtain⟨n,rfl⟩:∃k,n=k+1:=⟨n-1,by rw[List.length_cons] at i;omega⟩
   rw[List.length_cons] at i g
   have o:DK ((G.push (.list [])).set d (.list (l.map int))) d l:=by
    unfold DK
    rw[Hp.get_set,if_pos rfl,if_pos (Hp.cj b)]
   obtain⟨H,c,e,p,r,s⟩:=u n _ (by lia) o (by omega)
   refine⟨H,c,?_,p,r,(bN.push _ _ _).trans ((bN.set _ _ _).trans s)⟩
   rw[qM,qL,(oi h).2]
   show lift _ (bd (bd ((sub (TA q) (G.push (.list [])) (.ref d) (.int 0)).map _) _) _) _=_
   rw[om b]
   show dS ((run (TA q) (n+1+8)).ax (dU d m) dB (G.push (.list []))) _=_
   rw[EH,vH b]
   show dS (match(lift _ (bd ((run (TA q) (n+1+5)).bL _ _ _) _) _) with|some (.ok f Q G)=>_|x=>x) _=_
   rw[EI]
   have j:cf (TA q) (.ref d) 2 [.int 0] (G.push (.list []))=some (.ok (int 0) ((G.push (.list [])).set d (.list (l.map int)))):=by
    unfold cf
    dsimp only
    rw[show(G.push (.list [])).get d=_ from b]
    show(if _ then _ else _)=_
    have t:(dR 0 0&&bS (List.map int (0::l)).length)=true:=by
     rw[Bool.and_eq_true];exact⟨rfl,eF (by simp;lia)⟩
    show(if(dR 0 0&&bS (List.map int (0::l)).length)=true then _ else _)=_
    rw[if_pos t]
   show dS (match(lift _ (cf (TA q) (.ref d) 2 [.int 0] (G.push (.list []))) _) with|some (.ok f Q G)=>_|x=>x) _=_
   rw[j]
   exact e
theorem kb{d m n:Nat}{l:List Nat}{G:Hp}(j:0<m)(B:m<=6)(y:l.length<=14)(h:DK G d l)(C:40<=n):
 ∃k o H,(run (TA q) n).call 1910 [.ref d,int m] G=some (.ok (int k) H)/\k<m/\DK H d o/\o.length<=14/\bN d G H:=by
 obtain⟨n,rfl⟩:∃k,n=k+14+12:=⟨n-26,by omega⟩
 obtain⟨A,b,u,e,f,p⟩:=ES (q:=q) (m:=m) l (n+14) G y h (by omega)
 rw[EP,bJ ((EJ d m G).trans u)]
 have s:=EK (q:=q) (n:=n+14) d m A
 rw[(oi e).1] at s
 cases b with
 |nil=>
  refine⟨0,[],A.push (.list []),?_,j,e.push _,Nat.zero_le _,p.trans (bN.push _ _ _)⟩
  rw[gP s];rfl
 |cons a b=>
  have c:=e.push (.list [])
  rw[bJ s]
  have r:=EL (q:=q) (n:=n+14) d m (A.push (.list []))
  rw[om c] at r
  have v:bin .Mod (A.push (.list [])) (int a) (int m) (TA q).bO=some (.ok (int (a % m)) (A.push (.list []))):=sr (by omega)
  have w:bin .FloorDiv (A.push (.list [])) (int a) (int m) (TA q).bO=some (.ok (int (a/m)) (A.push (.list []))):=xl (by omega) (by omega)
  have g:(run (TA q) (n+14+8)).ex (dU d m) (hd 1910 2) (A.push (.list []))=some (.ok .next (dL d m++[(z "found",int (a % m))]) (A.push (.list []))):=by
   rw[r]
   show lift _ (bin .Mod (A.push (.list [])) (int a) (int m) (TA q).bO) _=_
   rw[v];rfl
  have t:=EM (q:=q) (n:=n+14) d m (int (a % m)) (A.push (.list []))
  rw[om c] at t
  have i:(run (TA q) (n+14+7)).ex ⟨dh 1910,dL d m++[(z "found",int (a % m))],[]⟩ (hd 1910 3) (A.push (.list []))=some (.ok .next (dL d m++[(z "found",int (a % m))]) ((A.push (.list [])).set d (.list (((a/m)::b).map int)))):=by
   rw[t]
   show lift _ (bin .FloorDiv (A.push (.list [])) (int a) (int m) (TA q).bO) _=_
   rw[w]
   have x:fj (A.push (.list [])) (.ref d) (.int 0) (int (a/m))=some ((A.push (.list [])).set d (.list (((a/m)::b).map int))):=by
    unfold fj
    dsimp only
    rw[show(A.push (.list [])).get d=_ from c];rfl
   show d0 _ (fj (A.push (.list [])) (.ref d) (.int 0) (int (a/m)))=_
   rw[x];rfl
  rw[bJ g,bJ i,gP (EN d m _ _)]
  refine⟨a % m,(a/m)::b,_,rfl,Nat.mod_lt _ j,?_,f,p.trans ((bN.push _ _ _).trans (bN.set _ _ _))⟩
  unfold DK
  rw[Hp.get_set,if_pos rfl,if_pos (Hp.cj c)]
end
section
variable{q:Option (Nat×List V)}{n:Nat}
abbrev kX:=bW (hd 1903 0)
abbrev fA(v:V):En:=⟨dh 1903,[(z "script",v)],[]⟩
noncomputable def ke(c:Int):Nat:=c.natAbs % 10000000000000000
theorem ET(v:V)(G:Hp):(run (TA q) (n+10)).call 1903 [v] G=callEnd ((run (TA q) (n+9)).ax (fA v) [hd 1903 0] G):=by rfl'
theorem EU(v:V)(G:Hp):(run (TA q) (n+8)).ex (fA v) (hd 1903 0) G=lift (fA v) (bd (bd (iz (TA q) v 14 G) λv G=>srcOf (TA q) G v) λxs G=>bd ((run (TA q) (n+6)).comp ⟨bM (fA v) (bU kX),[],[]⟩ (dj kX) (z "cell") [] xs 0 [] G) λs G=>some (.ok (.ref G.length) (G.push (.list s.reverse)))) λw G=>some (.ok (.ret w) [(z "script",v)] G):=by rfl'
theorem vJ(v:V)(w x:V)(G:Hp):bZ ⟨bM (fA v) (bU kX),[],[]⟩ G (z "cell") x=some (⟨bM (fA v) (bU kX),[(z "cell",x)],[]⟩,G)/\
 bZ ⟨bM (fA v) (bU kX),[(z "cell",w)],[]⟩ G (z "cell") x=some (⟨bM (fA v) (bU kX),[(z "cell",x)],[]⟩,G):=⟨by rfl',by rfl'⟩
theorem EV(v:V)(c:Int)(G:Hp):(run (TA q) (n+6)).ev ⟨bM (fA v) (bU kX),[(z "cell",.int c)],[]⟩ (dj kX) G=some (.ok (.int (Int.fmod (.ofNat c.natAbs) 10000000000000000)) G):=by rfl'
theorem EW{v:V}{a:Nat}{G:Hp}{xs:List Int}(h:G.get a=some (.list (xs.map .int))):∀(k n:Nat) (Q:List (Str×V)) (I:List V),(Q=[]\/∃w,Q=[(z "cell",w)])->xs.length<=k+I.length->k<=n->I.length+k<4096->
 (run (TA q) (n+7)).comp ⟨bM (fA v) (bU kX),Q,[]⟩ (dj kX) (z "cell") [] (.lst a) I.length I G=some (.ok (((xs.drop I.length).map λc=>int (ke c)).reverse++I) G):=by
 intro k
 induction k with
 |zero=>
  intro n Q I l d j o
  have b:cz (TA q) G (.lst a) I.length=some none:=by
   show(match G.get a with|some (.list xs)=>some xs[I.length]? |_=>none)=_
   rw[h]
   show some ((xs.map V.int)[I.length]?)=_
   rw[List.getElem?_eq_none (by rw[List.length_map];lia)]
  rw[ka b,List.drop_eq_nil_of_le (by lia)];rfl
 |succ k i=>
  intro n Q I l d f g
  by_cases x:xs.length<=I.length
  ·have b:cz (TA q) G (.lst a) I.length=some none:=by
    show(match G.get a with|some (.list xs)=>some xs[I.length]? |_=>none)=_
    rw[h]
    show some ((xs.map V.int)[I.length]?)=_
    rw[List.getElem?_eq_none (by rw[List.length_map];omega)]
   rw[ka b,List.drop_eq_nil_of_le (by omega)];rfl
  obtain⟨n,rfl⟩:∃m,n=m+1:=⟨n-1,by omega⟩
  have x:I.length<xs.length:=by lia
  have b:cz (TA q) G (.lst a) I.length=some (some (.int xs[I.length])):=by
   show(match G.get a with|some (.list xs)=>some xs[I.length]? |_=>none)=_
   rw[h]
   show some ((xs.map V.int)[I.length]?)=_
   rw[List.getElem?_map,List.getElem?_eq_getElem x];rfl
  have s:bZ ⟨bM (fA v) (bU kX),Q,[]⟩ G (z "cell") (.int xs[I.length])=some (⟨bM (fA v) (bU kX),[(z "cell",.int xs[I.length])],[]⟩,G):=by
   rcases l with rfl|⟨w,rfl⟩
   ·exact(vJ v .none _ G).1
   ·exact(vJ v w _ G).2
  rw[jt (n:=n+7) b s rfl (by omega) (EV (n:=n+1) v _ G)]
  have:=i n [(z "cell",.int xs[I.length])] (int (ke xs[I.length])::I) (.inr ⟨_,rfl⟩) (by rw[List.length_cons];lia) (by omega) (by rw[List.length_cons];omega)
  have e:V.int (Int.fmod (.ofNat xs[I.length].natAbs) 10000000000000000)=int (ke xs[I.length]):=by
   show V.int (Int.fmod ((xs[I.length].natAbs:Nat):Int) ((10000000000000000:Nat):Int))=_
   rw[←Int.ofNat_fmod];rfl
  rw[e]
  rw[List.length_cons] at this
  rw[this,List.drop_eq_getElem_cons x,List.map_cons,List.reverse_cons,List.append_assoc];rfl
theorem EX{a n:Nat}{xs:List Int}(x:xs.length<4096)(m:40<=n)(G:Hp):∃l d H,(run (TA (some (a,xs.map .int))) n).call 1903 [.old a] G=some (.ok (.ref d) H)/\DK H d l/\l.length<=14/\G.length<=d/\G.length<=H.length/\∀j,j<G.length->H.get j=G.get j:=by
 obtain⟨n,rfl⟩:∃k,n=k+20+10:=⟨n-30,by omega⟩
 have h:(G.push (.list ((xs.take 14).map .int))).get G.length=some (.list ((xs.take 14).map .int)):=Hp.cB _ _
 have g:=EW (q:=some (a,xs.map .int)) (v:=.old a) h 14 (n+19) [] [] (.inl rfl) (by simp;lia) (by lia) (by decide)
 have e:(run (TA (some (a,xs.map .int))) (n+20+8)).ex (fA (.old a)) (hd 1903 0) G=some (.ok (.ret (.ref (G.length+1))) [(z "script",.old a)] ((G.push (.list ((xs.take 14).map .int))).push (.list ((xs.take 14).map λc=>int (ke c))))):=by
  rw[EU]
  have b:iz (TA (some (a,xs.map .int))) (.old a) 14 G=some (.ok (.ref G.length) (G.push (.list ((xs.take 14).map .int)))):=by
   show(if(Nat.beq a a&&(inR 14&&bS (xs.map V.int).length))=true then some (R.ok (V.ref G.length) (G.push (.list ((xs.map V.int).take 14)))) else none)=_
   rw[if_pos (by rw[Nat.beq_refl a,List.length_map,eF x];rfl),List.map_take]
  rw[b]
  have f:srcOf (TA (some (a,xs.map .int))) (G.push (.list ((xs.take 14).map .int))) (.ref G.length)=some (.ok (.lst G.length) (G.push (.list ((xs.take 14).map .int)))):=by
   unfold srcOf
   dsimp only
   rw[h]
  show lift _ (bd (srcOf (TA (some (a,xs.map .int))) (G.push (.list ((xs.take 14).map .int))) (.ref G.length)) _) _=_
  rw[f]
  show lift _ (bd ((run (TA (some (a,xs.map .int))) (n+19+7)).comp _ _ _ _ (.lst G.length) ([]:List V).length _ _) _) _=_
  rw[g]
  show some (RS.ok (Fl.ret (V.ref (G.push _).length)) _ _)=_
  rw[Hp.length_push,List.append_nil,List.reverse_reverse];rfl
 refine⟨(xs.take 14).map ke,G.length+1,(G.push (.list ((xs.take 14).map .int))).push (.list ((xs.take 14).map λc=>int (ke c))),?_,?_,by simp;lia,by lia,?_,λj i=>?_⟩
 ·rw[ET,gP e];rfl
 ·show Hp.get _ _=_
  rw[show G.length+1=(G.push (.list ((xs.take 14).map .int))).length from(Hp.length_push _ _).symm,Hp.cB,List.map_map];rfl
 ·rw[Hp.length_push,Hp.length_push];lia
 ·rw[Hp.eT (by rw[Hp.length_push];omega),Hp.eT i]
theorem goN{M B M2 k al xs U n v2 x}{y:Option (R V)}(z:Im M al U)(b:bR B al xs U)(q:M.length=N)(s:dF N M=true)(l:M2.length=N)
 (E:∀f,Rel f U.get (cJ (M++B)) U->(∀i,i<(M++B).length->f i=cat al xs i)->RO f U.get (V.mp f) x y)
 (c:eB (M++B) (M2++k) N [] [] n (some v2) x=true):
 ∃d ys,y=some (.ok (v2.mp (cat al ys)) d)/\bR k al ys d/\(∀i,i<k.length->U.length<=ys i)/\Fr [] al U d:=by
 have D:([]:List Nat).all (bT N)=true:=rfl
 obtain⟨v,d,a,w,r,u⟩:=j4 (z.merge b q s) E c
 have C:(M2++k).length=N+k.length:=by rw[List.length_append,l]
 have p:∀i,i<N->a i=al i:=λi g=>by rw[r.kept i g List.not_mem_nil,b8 g]
 have t:cat al (λi=>a (N+i))=a:=by
  funext i
  by_cases h:i<N
  ·rw[b8 h,p i h]
  ·rw[dm (by omega)];congr 1;omega
 refine⟨d,λi=>a (N+i),by rw[w,u v2 rfl,t],⟨λi j g m e=>?_,λi g=>r.im.lt _ (by lia),λi j g m e=>?_,λi o e=>?_⟩,λi g=>?_,r.le,λj m h=>r.fr j m λi g=>absurd g List.not_mem_nil⟩
 ·have:=r.im.inj _ _ (by lia) (by lia) e;lia
 ·rw[←p i g] at e
  have:=r.im.inj _ _ (by lia) (by lia) e;lia
 ·rw[t]
  refine r.im.has _ o ?_
  rw[List.getElem?_append_right (by lia),l,Nat.add_sub_cancel_left];exact e
 ·rcases Nat.lt_or_ge (a (N+i)) U.length with h|h
  ·have:=(r.new (N+i) (by lia) h).1;lia
  ·exact h
def iR:List (Option O):=List.replicate N none
theorem oq:iR.length=N:=List.length_replicate
theorem EY:dF N iR=true:=by decide+kernel
theorem Im.none{E al U}(m:Im E al U)(h:E.length=N):Im iR al U:=m.mono (by rw[oq,h];exact Nat.le_refl _) λi o e=>by
 unfold iR at e
 have:=List.mem_of_getElem? e
 have:=List.eq_of_mem_replicate this
 ext this
theorem Off.lR{al U d}(h:Off al U d):bR [none] al (λc=>d) U:=⟨λi j a b c=>by rw[List.length_singleton] at*;lia,λi c=>h.1,λi j a c=>h.2 i a,λi o e=>by
 cases i with
 |zero=>ext e
 |succ i=>cases e⟩
noncomputable def P3(k w f:Nat):Nat:=bif Nat.beq w 0 then 6*k+f else bif Nat.beq w 1 then 36+(6*k+f) else 72+f
def ju(p:Nat):List V:=[.str (bif Nat.beq (cR p) 2 then z "" else nm (num (cu p))),.bool (Nat.beq (cR p) 1),.bool (b9 p)]
def ie(p:Nat):List (Option O):=(D p).gb false N++[some (.tup ((D p).gv N::ju p))]
def fB(p:Nat):Nat:=((D p).gb false N).length
abbrev pL(d:V)(k w f:Nat):List (Str×V):=[(z "deck",d),(z "name",.str (nm (num k))),(z "way",int w),(z "fault",int f)]
abbrev pS:List Stmt:=[hd 1922 2,hd 1922 3,hd 1922 4]
def EZ(p:Nat)(v:V)(G:Hp):Option (List (Nat×Nat)×List Nat):=match v with
 |.ref i=>match G.get i with
  |some (.tup (x::a))=>((D p).lP G false [x]).map λcs=>([],cs++[i])
  |_=>none
 |_=>none
def qN(k w f:Nat):Bool:=
 let p:=P3 k w f
 let E:=iR++[none]
 eB E (iR++ie p) N [] [] (EZ p) (some (.ref (N+fB p))) (callEnd (RR.ax ⟨dh 1922,pL (.ref N) k w f,[]⟩ pS (cJ E)))
def iS(k:Nat):Bool:=[0,1,2].all λw=>[0,1,2,3,4,5].all λf=>qN k w f
theorem E0:iS 0=true:=by decide+kernel
theorem E3:iS 1=true:=by decide+kernel
theorem E4:iS 2=true:=by decide+kernel
theorem E5:iS 3=true:=by decide+kernel
theorem E6:iS 4=true:=by decide+kernel
theorem E7:iS 5=true:=by decide+kernel
theorem E8{k w f:Nat}(b:k<6)(c:w<3)(a:f<6):qN k w f=true:=by
 have h:iS k=true:=by
  exact(List.forall_mem_cons.mpr ⟨E0,List.forall_mem_cons.mpr ⟨E3,List.forall_mem_cons.mpr ⟨E4,List.forall_mem_cons.mpr ⟨E5,List.forall_mem_cons.mpr ⟨E6,List.forall_mem_singleton.mpr E7⟩⟩⟩⟩⟩:∀k∈[0,1,2,3,4,5],iS k=true) k (List.mem_range.mpr b)
 exact List.all_eq_true.mp (List.all_eq_true.mp h w (List.mem_range.mpr c)) f (List.mem_range.mpr a)
abbrev ot(d:Nat):En:=⟨dh 1922,[(z "deck",.ref d)],[]⟩
abbrev kf(d:Nat)(v:V):En:=⟨dh 1922,[(z "deck",.ref d),(z "name",v)],[]⟩
theorem E9(d:Nat)(G:Hp):(run (TA q) (n+8)).call 1922 [.ref d] G=callEnd ((run (TA q) (n+7)).ax (ot d) (hd 1922 0::hd 1922 1::pS) G):=by rfl'
theorem E_(d:Nat)(G:Hp):(run (TA q) (n+6)).ex (ot d) (hd 1922 0) G=
 lift (ot d) (bd ((run (TA q) (n+2)).call 1910 [.ref d,int 6] G) λk G=>(sub (TA q) G (.old 1898) k).map λx=>.ok x G) λv G=>some (.ok .next [(z "deck",.ref d),(z "name",v)] G):=by rfl'
theorem Fa(d:Nat)(v:V)(G:Hp):(run (TA q) (n+8)).ex (kf d v) (hd 1922 1) G=
 lift (kf d v) (bd (bd ((run (TA q) (n+3)).call 1910 [.ref d,int 3] G) λw G=>bd (bd ((run (TA q) (n+2)).call 1910 [.ref d,int 6] G) λf G=>some (.ok [f] G)) λs G=>some (.ok (w::s) G)) λs G=>if bS s.length&&!s.isEmpty then some (.ok (.ref G.length) (G.push (.tup s))) else .none) λx G=>fc (kf d v) [z "way",z "fault"] x G:=by rfl'
theorem Fb(d:Nat)(v w f:V)(G:Hp):dz (cV ([z "way",z "fault"].zip [w,f]) (kf d v) G)=some (.ok .next [(z "deck",.ref d),(z "name",v),(z "way",w),(z "fault",f)] G):=by rfl'
theorem Fc{k:Nat}(h:k<6)(G:Hp):sub (TA q) G (.old 1898) (int k)=some (.str (nm (num k))):=by
 match k,h with
 |0,_=>rfl'
 |1,_=>rfl'
 |2,_=>rfl'
 |3,_=>rfl'
 |4,_=>rfl'
 |5,_=>rfl'
theorem bN.off{d al U b a}(h:bN d U b)(o:Off al U a):Off al b a:=⟨Nat.lt_of_lt_of_le o.1 h.1,o.2⟩
theorem Im.only{E al d U a}(m:Im E al U)(c:E.length=N)(h:bN d U a)(o:Off al U d):Im E al a:=
 ⟨m.inj,λi b=>Nat.lt_of_lt_of_le (m.lt i b) h.1,λi x e=>by
  have b:=(List.getElem?_eq_some_iff.mp e).1
  rw[h.2 _ (m.lt i b) (o.2 i (by lia))];exact m.has i x e⟩
theorem Wd.only{t K w al d U a}(W:Wd t K w al U)(h:bN d U a)(o:Off al U d):Wd t K w al a:=⟨W.im.only (cS _ _ _) h o,λj b c=>by
 have:=iN j b
 have i:58+2*num j<N:=by unfold N;lia
 rw[h.2 _ (W.im.lt _ (by rw[cS];exact i)) (o.2 _ i)];exact W.ks j b c,W.kv,W.ts⟩
theorem bR.only{B al xs d U a}(b:bR B al xs U)(h:bN d U a)(o:∀i,i<B.length->xs i≠d):bR B al xs a:=⟨b.inj,λi c=>Nat.lt_of_lt_of_le (b.lt i c) h.1,b.jo,λi x e=>by
 have c:=(List.getElem?_eq_some_iff.mp e).1
 rw[h.2 _ (b.lt i c) (o i c)];exact b.has i x e⟩
theorem ou{Y:En}{xs:List Str}{i:Nat}{v:List V}{G:Hp}(h:G.get i=some (.tup v))(l:Nat.beq xs.length v.length=true):fc Y xs (.ref i) G=dz (cV (xs.zip v) Y G):=by
 unfold fc
 simp only[h,l,if_true]
theorem Fd{d:Nat}{l:List Nat}{al:Nat->Nat}{U:Hp}(aa:Im iR al U)(o:Off al U d)(h:DK U d l)(hl:l.length<=14)(hn:170<=n):
 ∃p M a xs,(run (TA q) n).call 1922 [.ref d] U=some (.ok (.ref (xs (fB p))) a)/\p<78/\DK a d M/\M.length<=14/\bN d U a/\bR (ie p) al xs a/\∀i,i<(ie p).length->U.length<=xs i:=by
 obtain⟨n,rfl⟩:∃k,n=k+151+10:=⟨n-161,by omega⟩
 obtain⟨k,l1,a,T,L,h1,u,o1⟩:=kb (q:=q) (m:=6) (n:=n+153+2) (by lia) (by lia) hl h (by lia)
 obtain⟨w,l2,D,W,hw,h2,v,o2⟩:=kb (q:=q) (m:=3) (n:=n+150+3) (by lia) (by lia) u h1 (by lia)
 obtain⟨f,l3,b,e3,hf,h3,x,o3⟩:=kb (q:=q) (m:=6) (n:=n+150+2) (by lia) (by lia) v h2 (by lia)
 have c:bN d U (b.push (.tup [int w,int f])):=o1.trans (o2.trans (o3.trans (bN.push _ _ _)))
 have K:=h3.push (.tup [int w,int f])
 have O:=E_ (q:=q) (n:=n+153) d U
 rw[T] at O
 have B:(run (TA q) (n+153+6)).ex (ot d) (hd 1922 0) U=some (.ok .next [(z "deck",.ref d),(z "name",.str (nm (num k)))] a):=by
  rw[O]
  show lift _ ((sub (TA q) a (.old 1898) (int k)).map _) _=_
  rw[Fc L];rfl
 have s1:=Fa (q:=q) (n:=n+150) d (.str (nm (num k))) a
 have C:(run (TA q) (n+150+8)).ex (kf d (.str (nm (num k)))) (hd 1922 1) a=some (.ok .next (pL (.ref d) k w f) (b.push (.tup [int w,int f]))):=by
  rw[s1,W]
  show lift _ (bd (bd (bd ((run (TA q) (n+150+2)).call 1910 [.ref d,int 6] D) _) _) _) _=_
  rw[e3]
  show fc _ _ (.ref b.length) (b.push (.tup [int w,int f]))=_
  rw[ou (Hp.cB _ _) rfl,Fb]
 have P:Im iR al (b.push (.tup [int w,int f])):=aa.only oq c o
 have F:=E8 L hw hf
 unfold qN at F
 obtain⟨E,ys,hy,S,t,s⟩:=goN (y:=callEnd ((run (TA q) (n+150+8)).ax ⟨dh 1922,pL (.ref d) k w f,[]⟩ pS (b.push (.tup [int w,int f])))) P (c.off o).lR oq EY oq (λg r t=>by
  have:=uW ((nE (same q) (show 150<=n+150+8 by lia)).ax ⟨dh 1922,pL (.ref N) k w f,[]⟩ pS _ _ r)
  have e:En.mp g ⟨dh 1922,pL (.ref N) k w f,[]⟩=⟨dh 1922,pL (.ref d) k w f,[]⟩:=by
   show En.mk _ [_,_,_,_] _=_
   have:g N=d:=by rw[t N (by decide),dm (Nat.le_refl _)]
   show En.mk _ [(_,V.ref (g N)),_,_,_] _=_
   rw[this];rfl
  rw[e] at this
  exact this) F
 refine⟨P3 k w f,l3,E,ys,?_,?_,?_,x,c.trans ⟨s.1,λj hj _=>s.nil j hj⟩,S,λi hi=>Nat.le_trans c.1 (t i hi)⟩
 ·rw[show n+151+10=n+153+8 from by omega,E9,show n+153+7=(n+153+6)+1 from rfl,bJ B]
  show callEnd ((run (TA q) (n+150+8+1)).ax (kf d _) _ a)=_
  rw[bJ C]
  show callEnd ((run (TA q) (n+150+8)).ax ⟨dh 1922,pL (.ref d) k w f,[]⟩ pS _)=_
  rw[hy]
  show some (R.ok (V.ref (cat al ys (N+fB (P3 k w f)))) _)=_
  rw[dm (by lia),Nat.add_sub_cancel_left]
 ·unfold P3
  cases Nat.beq w 0<;>cases Nat.beq w 1<;>simp only[cond_true,cond_false]<;>lia
 ·unfold DK
  rw[s.nil _ (Hp.cj K)];exact K
noncomputable def kg:Stmt->List Stmt
 |.Try b a c d e=>b
 |_=>[]
def ew(T:Tb)(F:Fs)(v:V)(a:Str)(k:Hp->Option (R (List V)))(G:Hp):Option (R V):=fQ T {F with bL:=λb c=>k} ⟨[],[],[]⟩ v a [] G
noncomputable def aL:Expr->Expr
 |.BinOp e a b c=>e
 |.Compare e a b c=>e
 |.IfExp a e b c=>e
 |_=>default
noncomputable def aR:Expr->Expr
 |.BinOp a b e c=>e
 |.Compare a b s c=>s.getD 0 default
 |.IfExp a b e c=>e
 |_=>default
noncomputable def aE:Expr->List Expr
 |.Call a e b c=>e
 |.BoolOp a e b=>e
 |.Tuple e a b=>e
 |.List e a=>e
 |_=>[]
abbrev bH(L:List (Str×V)):En:=⟨dh 1813,L,[]⟩
abbrev oy:Stmt:=(bodyOf 1813).getD 0 default
theorem Fe(L:List (Str×V))(G:Hp):(run (TA q) (n+30)).ex (bH L) oy G=
 lift (bH L) (bd (some (.ok [] G)) λs G=>if bS s.length then some (.ok (.ref G.length) (G.push (.list s))) else .none) λv G=>some (.ok .next (put (z "found") v L) G):=by rfl'
abbrev oz:Stmt:=(bodyOf 1813).getD 1 default
theorem Ff(L:List (Str×V))(G:Hp):(run (TA q) (n+30)).ex (bH L) oz G=
 lift (bH L) (bd (bd ((lk (z "form") L).map λv=>R.ok v G) λv G=>bd (some (.ok [] G)) λs G=>some (.ok (v::s) G)) λs G=>if bS s.length then some (.ok (.ref G.length) (G.push (.list s))) else .none) λv G=>some (.ok .next (put (z "waiting") v L) G):=by rfl'
abbrev oA:Stmt:=(bodyOf 1813).getD 2 default
theorem Fg(L:List (Str×V))(G:Hp):(run (TA q) (n+30)).ex (bH L) oA G=
 lift (bH L) (bd (bd ((lk (z "world") L).map λv=>R.ok v G) λv G=>bd (some (.ok [] G)) λs G=>some (.ok (v::s) G)) λs G=>(run (TA q) (n+28)).dJ (.old 1781) s G) λv G=>some (.ok .next (put (z "walk") v L) G):=by rfl'
abbrev cx:Stmt:=(bodyOf 1813).getD 3 default
theorem vK(L:List (Str×V))(G:Hp):(run (TA q) (n+30)).ex (bH L) cx G=
 (run (TA q) (n+29)).cA (bH L) (eu cx) (cT cx) G:=by rfl'
theorem qO(L:List (Str×V))(G:Hp):(run (TA q) (n+30)).ev (bH L) (eu cx) G=
 bd (bd (bd ((lk (z "waiting") L).map λv=>R.ok v G) λv G=>bd (some (.ok [] G)) λs G=>some (.ok (v::s) G)) λs G=>cF (TA q) (.bi 0) s G) λa G=>bd (some (.ok (int 0) G)) λb G=>(cmp (TA q) G .Gt a b).map λc=>R.ok (.bool c) G:=by rfl'
abbrev vL:Stmt:=(cT cx).getD 0 default
theorem vM(L:List (Str×V))(G:Hp):(run (TA q) (n+30)).ex (bH L) vL G=
 lift (bH L) (bd ((lk (z "walk") L).map λv=>R.ok v G) λv G=>ew (TA q) (run (TA q) (n+28)) v (z "opened") (λG=>bd (bd ((lk (z "waiting") L).map λv=>R.ok v G) λv G=>ew (TA q) (run (TA q) (n+26)) v (z "pop") (λG=>some (.ok [] G)) G) λv G=>bd (bd (bd ((lk (z "world") L).map λv=>R.ok v G) λv G=>(dq (TA q) G v (z "root")).map λx=>R.ok x G) λv G=>bd (some (.ok [] G)) λs G=>some (.ok (v::s) G)) λs G=>some (.ok (v::s) G)) G) λv G=>some (.ok .next (put (z "first") v L) G):=by rfl'
abbrev vP:Stmt:=(cT cx).getD 1 default
theorem vQ(L:List (Str×V))(G:Hp):(run (TA q) (n+30)).ex (bH L) vP G=
 lift (bH L) (bd (bd ((lk (z "first") L).map λv=>R.ok v G) λv G=>bd (bd (bd ((lk (z "world") L).map λv=>R.ok v G) λv G=>(dq (TA q) G v (z "root")).map λx=>R.ok x G) λv G=>bd (some (.ok [] G)) λs G=>some (.ok (v::s) G)) λs G=>some (.ok (v::s) G)) λs G=>(run (TA q) (n+27)).call 1677 s G) λv G=>some (.ok .next (put (z "word") v L) G):=by rfl'
abbrev eU:Stmt:=(cT cx).getD 2 default
theorem vT(L:List (Str×V))(G:Hp):(run (TA q) (n+30)).ex (bH L) eU G=
 lift (bH L) (bd ((lk (z "word") L).map λv=>R.ok v G) λa G=>bd (some (.ok (.str (z "begin")) G)) λb G=>(cmp (TA q) G .Eq a b).map λc=>R.ok (.bool c) G) λv G=>bX (truth v) ((run (TA q) (n+29)).ax (bH L) (dv eU) G) ((run (TA q) (n+29)).ax (bH L) (d_ eU) G):=by rfl'
abbrev qP:Stmt:=(dv eU).getD 0 default
theorem Fh(L:List (Str×V))(G:Hp):(run (TA q) (n+30)).ex (bH L) qP G=
 lift (bH L) (bd ((lk (z "waiting") L).map λv=>R.ok v G) λa G=>bd (bd (bd (bd ((lk (z "first") L).map λv=>R.ok v G) λv G=>bd (bd (some (.ok (int 0) G)) λv G=>bd (bd (some (.ok (.int (-1)) G)) λv G=>bd (some (.ok [] G)) λs G=>some (.ok (v::s) G)) λs G=>some (.ok (v::s) G)) λs G=>some (.ok (v::s) G)) λs G=>(run (TA q) (n+25)).call 1213 s G) λv G=>g9 v G) λb G=>bin .Add G a b (TA q).bO) λv G=>some (.ok .next (put (z "waiting") v L) G):=by rfl'
theorem Fi:(dv eU)=[qP]:=by rfl'
abbrev ig:Stmt:=(d_ eU).getD 0 default
theorem vU(L:List (Str×V))(G:Hp):(run (TA q) (n+30)).ex (bH L) ig G=
 lift (bH L) (bd ((lk (z "word") L).map λv=>R.ok v G) λa G=>bd (some (.ok (.str (z "define")) G)) λb G=>(cmp (TA q) G .Eq a b).map λc=>R.ok (.bool c) G) λv G=>bX (truth v) ((run (TA q) (n+29)).ax (bH L) (dv ig) G) ((run (TA q) (n+29)).ax (bH L) (d_ ig) G):=by rfl'
abbrev lX:Stmt:=(dv ig).getD 0 default
theorem Fj(L:List (Str×V))(G:Hp):(run (TA q) (n+30)).ex (bH L) lX G=
 lift (bH L) (bd ((lk (z "found") L).map λv=>R.ok v G) λv G=>ew (TA q) (run (TA q) (n+28)) v (z "append") (λG=>bd (bd (bd ((lk (z "walk") L).map λv=>R.ok v G) λv G=>bd (bd ((lk (z "first") L).map λv=>R.ok v G) λv G=>bd (bd ((lk (z "world") L).map λv=>R.ok v G) λv G=>bd (some (.ok [] G)) λs G=>some (.ok (v::s) G)) λs G=>some (.ok (v::s) G)) λs G=>some (.ok (v::s) G)) λs G=>(run (TA q) (n+25)).call 1792 s G) λv G=>bd (some (.ok [] G)) λs G=>some (.ok (v::s) G)) G) λv G=>if noRef v then some (.ok .next L G) else .none:=by rfl'
theorem Fo:(dv ig)=[lX]:=by rfl'
abbrev gQ:Stmt:=(d_ ig).getD 0 default
theorem vV(L:List (Str×V))(G:Hp):(run (TA q) (n+30)).ex (bH L) gQ G=
 lift (bH L) (bd ((lk (z "word") L).map λv=>R.ok v G) λa G=>bd (some (.ok (.str (z "define-syntax")) G)) λb G=>(cmp (TA q) G .Eq a b).map λc=>R.ok (.bool c) G) λv G=>bX (truth v) ((run (TA q) (n+29)).ax (bH L) (dv gQ) G) ((run (TA q) (n+29)).ax (bH L) (d_ gQ) G):=by rfl'
abbrev lY:Stmt:=(dv gQ).getD 0 default
theorem Fp(L:List (Str×V))(G:Hp):(run (TA q) (n+30)).ex (bH L) lY G=
 lift (bH L) (bd (bd ((lk (z "first") L).map λv=>R.ok v G) λv G=>bd (bd ((lk (z "world") L).map λv=>R.ok v G) λv G=>bd (some (.ok [] G)) λs G=>some (.ok (v::s) G)) λs G=>some (.ok (v::s) G)) λs G=>(run (TA q) (n+27)).call 1799 s G) λv G=>if noRef v then some (.ok .next L G) else .none:=by rfl'
theorem Fq:(dv gQ)=[lY]:=by rfl'
abbrev lZ:Stmt:=(d_ gQ).getD 0 default
theorem Ft(L:List (Str×V))(G:Hp):(run (TA q) (n+30)).ex (bH L) lZ G=
 lift (bH L) (bd ((lk (z "walk") L).map λv=>R.ok v G) λv G=>ew (TA q) (run (TA q) (n+28)) v (z "expand") (λG=>bd ((lk (z "first") L).map λv=>R.ok v G) λv G=>bd (bd (bd ((lk (z "world") L).map λv=>R.ok v G) λv G=>(dq (TA q) G v (z "root")).map λx=>R.ok x G) λv G=>bd (bd (some (.ok (.str (z "")) G)) λv G=>bd (some (.ok [] G)) λs G=>some (.ok (v::s) G)) λs G=>some (.ok (v::s) G)) λs G=>some (.ok (v::s) G)) G) λv G=>if noRef v then some (.ok .next L G) else .none:=by rfl'
abbrev l0:Stmt:=(d_ gQ).getD 1 default
theorem Fu(L:List (Str×V))(G:Hp):(run (TA q) (n+30)).ex (bH L) l0 G=
 lift (bH L) (bd ((lk (z "found") L).map λv=>R.ok v G) λv G=>ew (TA q) (run (TA q) (n+28)) v (z "append") (λG=>bd (bd ((lk (z "walk") L).map λv=>R.ok v G) λv G=>ew (TA q) (run (TA q) (n+26)) v (z "run") (λG=>some (.ok [] G)) G) λv G=>bd (some (.ok [] G)) λs G=>some (.ok (v::s) G)) G) λv G=>if noRef v then some (.ok .next L G) else .none:=by rfl'
theorem Fv:(d_ gQ)=[lZ,l0]:=by rfl'
theorem Fw:(d_ ig)=[gQ]:=by rfl'
theorem Fy:(d_ eU)=[ig]:=by rfl'
theorem qQ:(cT cx)=[vL,vP,eU]:=by rfl'
abbrev oB:Stmt:=(bodyOf 1813).getD 4 default
theorem Fz(L:List (Str×V))(G:Hp):(run (TA q) (n+30)).ex (bH L) oB G=
 lift (bH L) ((lk (z "found") L).map λv=>R.ok v G) λv G=>some (.ok (.ret v) L G):=by rfl'
abbrev cO(L:List (Str×V)):En:=⟨dh 1806,L,[]⟩
abbrev vW:Stmt:=(bodyOf 1806).getD 0 default
theorem FA(L:List (Str×V))(G:Hp):(run (TA q) (n+30)).ex (cO L) vW G=
 lift (cO L) (bd (bd (bd (bd ((lk (z "world") L).map λv=>R.ok v G) λv G=>(dq (TA q) G v (z "root")).map λx=>R.ok x G) λv G=>(dq (TA q) G v (z "names")).map λx=>R.ok x G) λv G=>bd (some (.ok [] G)) λs G=>some (.ok (v::s) G)) λs G=>cF (TA q) (.ty 1) s G) λv G=>some (.ok .next (put (z "names") v L) G):=by rfl'
abbrev jv:Stmt:=(bodyOf 1806).getD 1 default
theorem FC(L:List (Str×V))(G:Hp):(run (TA q) (n+30)).ex (cO L) jv G=
 g_ (TA q) (cO L) (z "SchemeError") (z "world") (z "root") (z "names") (z "names") (z "error") ((run (TA q) (n+29)).ax (cO L) (kg jv) G):=by rfl'
abbrev oH:Stmt:=(kg jv).getD 0 default
theorem FD(L:List (Str×V))(G:Hp):(run (TA q) (n+30)).ex (cO L) oH G=
 lift (cO L) (bd (bd ((lk (z "form") L).map λv=>R.ok v G) λv G=>bd (bd ((lk (z "world") L).map λv=>R.ok v G) λv G=>bd (some (.ok [] G)) λs G=>some (.ok (v::s) G)) λs G=>some (.ok (v::s) G)) λs G=>(run (TA q) (n+27)).call 1813 s G) λv G=>some (.ok (.ret v) L G):=by rfl'
theorem FE:(kg jv)=[oH]:=by rfl'
abbrev eV(L:List (Str×V)):En:=⟨dh 557,L,[]⟩
abbrev qR:Stmt:=(bodyOf 557).getD 0 default
theorem FG(L:List (Str×V))(G:Hp):(run (TA q) (n+30)).ex (eV L) qR G=
 lift (eV L) ((lk (z "tail") L).map λv=>R.ok v G) λv G=>some (.ok .next (put (z "found") v L) G):=by rfl'
abbrev iT:Stmt:=(bodyOf 557).getD 1 default
theorem FH(L:List (Str×V))(G:Hp):(run (TA q) (n+30)).ex (eV L) iT G=
 lift (eV L) (bd (bd (bd (bd (bd ((lk (z "things") L).map λv=>R.ok v G) λv G=>bd (some (.ok [] G)) λs G=>some (.ok (v::s) G)) λs G=>cF (TA q) (.bi 0) s G) λa G=>bd (some (.ok (int 1) G)) λb G=>bin .Sub G a b (TA q).bO) λv G=>bd (bd (some (.ok (.int (-1)) G)) λv G=>bd (bd (some (.ok (.int (-1)) G)) λv G=>bd (some (.ok [] G)) λs G=>some (.ok (v::s) G)) λs G=>some (.ok (v::s) G)) λs G=>some (.ok (v::s) G)) λs G=>(gG s).map λl=>R.ok l G) λxs G=>(run (TA q) (n+29)).fr (eV L) (z "place") (cU iT) xs 0 G:=by rfl'
theorem FI(L:List (Str×V))(G:Hp)(v:V):bZ (eV L) G (z "place") v=
 some ((eV (put (z "place") v L)),G):=by rfl'
abbrev vX:Stmt:=(cU iT).getD 0 default
theorem FJ(L:List (Str×V))(G:Hp):(run (TA q) (n+30)).ex (eV L) vX G=
 lift (eV L) (bd (bd (bd ((lk (z "things") L).map λv=>R.ok v G) λv G=>bd ((lk (z "place") L).map λv=>R.ok v G) λk G=>(sub (TA q) G v k).map λx=>R.ok x G) λv G=>bd (bd ((lk (z "found") L).map λv=>R.ok v G) λv G=>bd (some (.ok [] G)) λs G=>some (.ok (v::s) G)) λs G=>some (.ok (v::s) G)) λs G=>(run (TA q) (n+28)).dJ (.old 482) s G) λv G=>some (.ok .next (put (z "found") v L) G):=by rfl'
theorem FK:(cU iT)=[vX]:=by rfl'
abbrev qS:Stmt:=(bodyOf 557).getD 2 default
theorem FL(L:List (Str×V))(G:Hp):(run (TA q) (n+30)).ex (eV L) qS G=
 lift (eV L) ((lk (z "found") L).map λv=>R.ok v G) λv G=>some (.ok (.ret v) L G):=by rfl'
abbrev cy(L:List (Str×V)):En:=⟨dh 564,L,[]⟩
abbrev qT:Stmt:=(bodyOf 564).getD 0 default
theorem FO(L:List (Str×V))(G:Hp):(run (TA q) (n+30)).ex (cy L) qT G=
 lift (cy L) (bd (some (.ok [] G)) λs G=>if bS s.length then some (.ok (.ref G.length) (G.push (.list s))) else .none) λv G=>some (.ok .next (put (z "things") v L) G):=by rfl'
abbrev qU:Stmt:=(bodyOf 564).getD 1 default
theorem FP(L:List (Str×V))(G:Hp):(run (TA q) (n+30)).ex (cy L) qU G=
 lift (cy L) ((lk (z "datum") L).map λv=>R.ok v G) λv G=>some (.ok .next (put (z "at") v L) G):=by rfl'
abbrev qV:Stmt:=(bodyOf 564).getD 2 default
theorem FQ(L:List (Str×V))(G:Hp):(run (TA q) (n+30)).ex (cy L) qV G=
 lift (cy L) ((lk (z "datum") L).map λv=>R.ok v G) λv G=>some (.ok .next (put (z "slow") v L) G):=by rfl'
abbrev eG:Stmt:=(bodyOf 564).getD 3 default
theorem FT(L:List (Str×V))(G:Hp):(run (TA q) (n+30)).ex (cy L) eG G=
 (run (TA q) (n+29)).cA (cy L) (eu eG) (cT eG) G:=by rfl'
theorem vY(L:List (Str×V))(G:Hp):(run (TA q) (n+30)).ev (cy L) (eu eG) G=
 bd (bd ((lk (z "at") L).map λv=>R.ok v G) λv G=>bd (bd (some (.ok (.old 482) G)) λv G=>bd (some (.ok [] G)) λs G=>some (.ok (v::s) G)) λs G=>some (.ok (v::s) G)) λs G=>cF (TA q) (.bi 2) s G:=by rfl'
abbrev qW:Stmt:=(cT eG).getD 0 default
theorem FU(L:List (Str×V))(G:Hp):(run (TA q) (n+30)).ex (cy L) qW G=
 lift (cy L) (bd ((lk (z "things") L).map λv=>R.ok v G) λv G=>ew (TA q) (run (TA q) (n+28)) v (z "append") (λG=>bd (bd ((lk (z "at") L).map λv=>R.ok v G) λv G=>(dq (TA q) G v (z "car")).map λx=>R.ok x G) λv G=>bd (some (.ok [] G)) λs G=>some (.ok (v::s) G)) G) λv G=>if noRef v then some (.ok .next L G) else .none:=by rfl'
abbrev vZ:Stmt:=(cT eG).getD 1 default
theorem FV(L:List (Str×V))(G:Hp):(run (TA q) (n+30)).ex (cy L) vZ G=
 lift (cy L) (bd ((lk (z "at") L).map λv=>R.ok v G) λv G=>(dq (TA q) G v (z "cdr")).map λx=>R.ok x G) λv G=>some (.ok .next (put (z "at") v L) G):=by rfl'
abbrev gR:Stmt:=(cT eG).getD 2 default
theorem FW(L:List (Str×V))(G:Hp):(run (TA q) (n+30)).ex (cy L) gR G=
 lift (cy L) (bd (bd (bd (bd ((lk (z "things") L).map λv=>R.ok v G) λv G=>bd (some (.ok [] G)) λs G=>some (.ok (v::s) G)) λs G=>cF (TA q) (.bi 0) s G) λa G=>bd (some (.ok (int 2) G)) λb G=>bin .Mod G a b (TA q).bO) λa G=>bd (some (.ok (int 0) G)) λb G=>(cmp (TA q) G .Eq a b).map λc=>R.ok (.bool c) G) λv G=>bX (truth v) ((run (TA q) (n+29)).ax (cy L) (dv gR) G) ((run (TA q) (n+29)).ax (cy L) (d_ gR) G):=by rfl'
abbrev v5:Stmt:=(dv gR).getD 0 default
theorem FX(L:List (Str×V))(G:Hp):(run (TA q) (n+30)).ex (cy L) v5 G=
 lift (cy L) (bd ((lk (z "slow") L).map λv=>R.ok v G) λv G=>(dq (TA q) G v (z "cdr")).map λx=>R.ok x G) λv G=>some (.ok .next (put (z "slow") v L) G):=by rfl'
abbrev l8:Stmt:=(dv gR).getD 1 default
theorem FY(L:List (Str×V))(G:Hp):(run (TA q) (n+30)).ex (cy L) l8 G=
 lift (cy L) (bd ((lk (z "at") L).map λv=>R.ok v G) λa G=>bd ((lk (z "slow") L).map λv=>R.ok v G) λb G=>(cmp (TA q) G .Is a b).map λc=>R.ok (.bool c) G) λv G=>bX (truth v) ((run (TA q) (n+29)).ax (cy L) (dv l8) G) ((run (TA q) (n+29)).ax (cy L) (d_ l8) G):=by rfl'
theorem FZ:(dv gR)=[v5,l8]:=by rfl'
theorem F0:(cT eG)=[qW,vZ,gR]:=by rfl'
abbrev qX:Stmt:=(bodyOf 564).getD 4 default
theorem F3(L:List (Str×V))(G:Hp):(run (TA q) (n+30)).ex (cy L) qX G=
 lift (cy L) (bd (bd ((lk (z "things") L).map λv=>R.ok v G) λv G=>bd (bd ((lk (z "at") L).map λv=>R.ok v G) λv G=>bd (some (.ok [] G)) λs G=>some (.ok (v::s) G)) λs G=>some (.ok (v::s) G)) λs G=>if bS s.length&&!s.isEmpty then some (.ok (.ref G.length) (G.push (.tup s))) else .none) λv G=>some (.ok (.ret v) L G):=by rfl'
abbrev eW(L:List (Str×V)):En:=⟨dh 1213,L,[]⟩
abbrev qY:Stmt:=(bodyOf 1213).getD 0 default
theorem F4(L:List (Str×V))(G:Hp):(run (TA q) (n+30)).ex (eW L) qY G=
 lift (eW L) (bd (bd ((lk (z "form") L).map λv=>R.ok v G) λv G=>bd (some (.ok [] G)) λs G=>some (.ok (v::s) G)) λs G=>(run (TA q) (n+27)).call 564 s G) λv G=>fc (eW L) [z "things",z "tail"] v G:=by rfl'
abbrev qZ:Stmt:=(bodyOf 1213).getD 1 default
theorem F5(L:List (Str×V))(G:Hp):(run (TA q) (n+30)).ex (eW L) qZ G=
 lift (eW L) (bd (bd (bd ((lk (z "things") L).map λv=>R.ok v G) λv G=>bd (some (.ok [] G)) λs G=>some (.ok (v::s) G)) λs G=>cF (TA q) (.bi 0) s G) λa G=>bd (some (.ok (int 1) G)) λb G=>bin .Sub G a b (TA q).bO) λv G=>some (.ok .next (put (z "many") v L) G):=by rfl'
abbrev kh:Stmt:=(bodyOf 1213).getD 2 default
theorem F6(L:List (Str×V))(G:Hp):(run (TA q) (n+30)).ex (eW L) kh G=
 lift (eW L) (bd (bd ((lk (z "tail") L).map λv=>R.ok v G) λa G=>bd (some (.ok (.old 374) G)) λb G=>(cmp (TA q) G .IsNot a b).map λc=>R.ok (.bool c) G) λv G=>bX (truth v) (some (.ok v G)) (bd (bd ((lk (z "many") L).map λv=>R.ok v G) λa G=>bd ((lk (z "least") L).map λv=>R.ok v G) λb G=>(cmp (TA q) G .Lt a b).map λc=>R.ok (.bool c) G) λv G=>bX (truth v) (some (.ok v G)) (bd (bd (bd ((lk (z "most") L).map λv=>R.ok v G) λa G=>bd (some (.ok (int 0) G)) λb G=>(cmp (TA q) G .GtE a b).map λc=>R.ok (.bool c) G) λv G=>bX (truth v) (bd (bd ((lk (z "many") L).map λv=>R.ok v G) λa G=>bd ((lk (z "most") L).map λv=>R.ok v G) λb G=>(cmp (TA q) G .Gt a b).map λc=>R.ok (.bool c) G) λv G=>(truth v).map λd=>R.ok v G) (some (.ok v G))) λv G=>(truth v).map λd=>R.ok v G))) λv G=>bX (truth v) ((run (TA q) (n+29)).ax (eW L) (dv kh) G) ((run (TA q) (n+29)).ax (eW L) (d_ kh) G):=by rfl'
abbrev q_:Stmt:=(bodyOf 1213).getD 3 default
theorem F7(L:List (Str×V))(G:Hp):(run (TA q) (n+30)).ex (eW L) q_ G=
 lift (eW L) (bd ((lk (z "things") L).map λv=>R.ok v G) λv G=>gZ v 1 G) λv G=>some (.ok (.ret v) L G):=by rfl'
abbrev ea(L:List (Str×V))(c:Nat):En:=⟨dh 1915,L,[(z "world",c)]⟩
abbrev ki:Stmt:=(bodyOf 1915).getD 0 default
theorem F8(L:List (Str×V))(c:Nat)(G:Hp):(run (TA q) (n+30)).ex (ea L c) ki G=
 lift (ea L c) (bd (bd ((lk (z "thing") L).map λv=>R.ok v G) λv G=>bd (bd (some (.ok (.ty 2) G)) λv G=>bd (some (.ok [] G)) λs G=>some (.ok (v::s) G)) λs G=>some (.ok (v::s) G)) λs G=>cF (TA q) (.bi 2) s G) λv G=>bX (truth v) ((run (TA q) (n+29)).ax (ea L c) (dv ki) G) ((run (TA q) (n+29)).ax (ea L c) (d_ ki) G):=by rfl'
abbrev gx:Stmt:=(bodyOf 1915).getD 1 default
theorem F9(L:List (Str×V))(c:Nat)(G:Hp):(run (TA q) (n+30)).ev ⟨bM (ea [] c) (bU ((aE (aL (bW gx))).getD 0 default)),L,[(z "world",c)]⟩ (dj ((aE (aL (bW gx))).getD 0 default)) G=
 bd (bd ((name (TA q) ⟨bM (ea [] c) (bU ((aE (aL (bW gx))).getD 0 default)),L,[(z "world",c)]⟩ G (z "world")).map λv=>R.ok v G) λv G=>bd (bd ((lk (z "part") L).map λv=>R.ok v G) λv G=>bd (some (.ok [] G)) λs G=>some (.ok (v::s) G)) λs G=>some (.ok (v::s) G)) λs G=>(run (TA q) (n+28)).call 1915 s G:=by rfl'
theorem F_(L:List (Str×V))(c:Nat)(G:Hp)(v:V):bZ ⟨bM (ea [] c) (bU ((aE (aL (bW gx))).getD 0 default)),L,[(z "world",c)]⟩ G (z "part") v=
 some (⟨bM (ea [] c) (bU ((aE (aL (bW gx))).getD 0 default)),put (z "part") v L,[(z "world",c)]⟩,G):=by rfl'
theorem Ga(L:List (Str×V))(c:Nat)(G:Hp):(run (TA q) (n+30)).ex (ea L c) gx G=
 lift (ea L c) (bd (bd (bd ((lk (z "thing") L).map λv=>R.ok v G) λv G=>bd (bd (some (.ok (.ty 0) G)) λv G=>bd (some (.ok [] G)) λs G=>some (.ok (v::s) G)) λs G=>some (.ok (v::s) G)) λs G=>cF (TA q) (.bi 2) s G) λa G=>bX (truth a) (bd (bd (bd (bd ((lk (z "thing") L).map λv=>R.ok v G) λv G=>srcOf (TA q) G v) λxs G=>bd ((run (TA q) (n+25)).comp ⟨bM (ea [] c) (bU ((aE (aL (bW gx))).getD 0 default)),[],[(z "world",c)]⟩ (dj ((aE (aL (bW gx))).getD 0 default)) (z "part") [] xs 0 [] G) λs G=>some (.ok (.ref G.length) (G.push (.list s.reverse)))) λv G=>bd (some (.ok [] G)) λs G=>some (.ok (v::s) G)) λs G=>(run (TA q) (n+26)).call 557 s G) ((lk (z "thing") L).map λv=>R.ok v G)) λv G=>some (.ok (.ret v) L G):=by rfl'
abbrev cG(L:List (Str×V))(c:Nat):En:=⟨dh 1927,L,[(z "meaning",c)]⟩
abbrev rd:Stmt:=(bodyOf 1927).getD 0 default
theorem Gb(L:List (Str×V))(c:Nat)(G:Hp):(run (TA q) (n+30)).ex (cG L c) rd G=
 lift (cG L c) (bd (some (.ok [] G)) λs G=>if bS s.length then some (.ok (.ref G.length) (G.push (.list s))) else .none) λv G=>some (.ok .next (put (z "found") v L) G):=by rfl'
abbrev gy:Stmt:=(bodyOf 1927).getD 1 default
theorem Ge(L:List (Str×V))(c:Nat)(G:Hp):(run (TA q) (n+30)).ex (cG L c) gy G=
 lift (cG L c) (bd (bd (some (.ok (.old 1898) G)) λa G=>bd (bd (bd (some (.ok (.str (z "other")) G)) λv G=>bd (bd (some (.ok (.str (z "quote")) G)) λv G=>bd (bd (some (.ok (.str (z "begin")) G)) λv G=>bd (bd (some (.ok (.str (z "define")) G)) λv G=>bd (bd (some (.ok (.str (z "define-syntax")) G)) λv G=>bd (bd (some (.ok (.str (z "and")) G)) λv G=>bd (some (.ok [] G)) λs G=>some (.ok (v::s) G)) λs G=>some (.ok (v::s) G)) λs G=>some (.ok (v::s) G)) λs G=>some (.ok (v::s) G)) λs G=>some (.ok (v::s) G)) λs G=>some (.ok (v::s) G)) λs G=>if bS s.length&&!s.isEmpty then some (.ok (.ref G.length) (G.push (.tup s))) else .none) λb G=>bin .Add G a b (TA q).bO) λv G=>srcOf (TA q) G v) λxs G=>(run (TA q) (n+29)).fr (cG L c) (z "name") (cU gy) xs 0 G:=by rfl'
theorem Gf(L:List (Str×V))(c:Nat)(G:Hp)(v:V):bZ (cG L c) G (z "name") v=
 some ((cG (put (z "name") v L) c),G):=by rfl'
abbrev rg:Stmt:=(cU gy).getD 0 default
theorem Gg(L:List (Str×V))(c:Nat)(G:Hp):(run (TA q) (n+30)).ex (cG L c) rg G=
 lift (cG L c) (bd (bd ((lk (z "world") L).map λv=>R.ok v G) λv G=>(dq (TA q) G v (z "root")).map λx=>R.ok x G) λv G=>ew (TA q) (run (TA q) (n+28)) v (z "find") (λG=>bd (bd (bd ((lk (z "world") L).map λv=>R.ok v G) λv G=>(dq (TA q) G v (z "table")).map λx=>R.ok x G) λv G=>ew (TA q) (run (TA q) (n+26)) v (z "symbol") (λG=>bd ((lk (z "name") L).map λv=>R.ok v G) λv G=>bd (some (.ok [] G)) λs G=>some (.ok (v::s) G)) G) λv G=>bd (some (.ok [] G)) λs G=>some (.ok (v::s) G)) G) λv G=>dz (bZ (cG L c) G (z "meaning") v):=by rfl'
abbrev gS:Stmt:=(cU gy).getD 1 default
theorem Gh(L:List (Str×V))(c:Nat)(G:Hp):(run (TA q) (n+30)).ev ⟨bM (cG [] c) (bU (bW gS)),L,[(z "meaning",c)]⟩ (dj (bW gS)) G=
 bd (bd ((name (TA q) ⟨bM (cG [] c) (bU (bW gS)),L,[(z "meaning",c)]⟩ G (z "meaning")).map λv=>R.ok v G) λv G=>bd (bd ((lk (z "word") L).map λv=>R.ok v G) λv G=>bd (some (.ok [] G)) λs G=>some (.ok (v::s) G)) λs G=>some (.ok (v::s) G)) λs G=>cF (TA q) (.bi 2) s G:=by rfl'
theorem rh(L:List (Str×V))(c:Nat)(G:Hp)(v:V):bZ ⟨bM (cG [] c) (bU (bW gS)),L,[(z "meaning",c)]⟩ G (z "word") v=
 some (⟨bM (cG [] c) (bU (bW gS)),put (z "word") v L,[(z "meaning",c)]⟩,G):=by rfl'
theorem Gi(L:List (Str×V))(c:Nat)(G:Hp):(run (TA q) (n+30)).ex (cG L c) gS G=
 lift (cG L c) (bd (bd (bd (bd (some (.ok (.old 710) G)) λv G=>bd (bd (some (.ok (.old 773) G)) λv G=>bd (bd (some (.ok (.old 752) G)) λv G=>bd (some (.ok [] G)) λs G=>some (.ok (v::s) G)) λs G=>some (.ok (v::s) G)) λs G=>some (.ok (v::s) G)) λs G=>if bS s.length&&!s.isEmpty then some (.ok (.ref G.length) (G.push (.tup s))) else .none) λv G=>srcOf (TA q) G v) λxs G=>bd ((run (TA q) (n+29)).comp ⟨bM (cG [] c) (bU (bW gS)),[],[(z "meaning",c)]⟩ (dj (bW gS)) (z "word") [] xs 0 [] G) λs G=>some (.ok (.ref G.length) (G.push (.list s.reverse)))) λv G=>some (.ok .next (put (z "kinds") v L) G):=by rfl'
abbrev rj:Stmt:=(cU gy).getD 2 default
theorem Gj(L:List (Str×V))(d:Nat)(G:Hp):(run (TA q) (n+30)).ex (cG L d) rj G=
 lift (cG L d) (bd ((lk (z "found") L).map λv=>R.ok v G) λv G=>ew (TA q) (run (TA q) (n+28)) v (z "append") (λG=>bd (bd (bd (some (.ok (.bool true) G)) λa G=>bd ((lk (z "kinds") L).map λv=>R.ok v G) λb G=>(cmp (TA q) G .In a b).map λc=>R.ok (.bool c) G) λa G=>bX (truth a) (bd (bd (bd (some (.ok (.str (z "word")) G)) λv G=>bd (bd (some (.ok (.str (z "macro")) G)) λv G=>bd (bd (some (.ok (.str (z "global")) G)) λv G=>bd (some (.ok [] G)) λs G=>some (.ok (v::s) G)) λs G=>some (.ok (v::s) G)) λs G=>some (.ok (v::s) G)) λs G=>if bS s.length then some (.ok (.ref G.length) (G.push (.list s))) else .none) λv G=>bd (bd ((lk (z "kinds") L).map λv=>R.ok v G) λv G=>ew (TA q) (run (TA q) (n+24)) v (z "index") (λG=>bd (some (.ok (.bool true) G)) λv G=>bd (some (.ok [] G)) λs G=>some (.ok (v::s) G)) G) λk G=>(sub (TA q) G v k).map λx=>R.ok x G) (some (.ok (.str (z "none")) G))) λv G=>bd (some (.ok [] G)) λs G=>some (.ok (v::s) G)) G) λv G=>if noRef v then some (.ok .next L G) else .none:=by rfl'
theorem Gk:(cU gy)=[rg,gS,rj]:=by rfl'
abbrev rl:Stmt:=(bodyOf 1927).getD 2 default
theorem Gl(L:List (Str×V))(c:Nat)(G:Hp):(run (TA q) (n+30)).ex (cG L c) rl G=
 lift (cG L c) ((lk (z "found") L).map λv=>R.ok v G) λv G=>some (.ok (.ret v) L G):=by rfl'
abbrev a_(L:List (Str×V))(c:Nat):En:=⟨dh 1932,L,[(z "deck",c)]⟩
abbrev rm:Stmt:=(bodyOf 1932).getD 0 default
theorem Gm(L:List (Str×V))(c:Nat)(G:Hp):(run (TA q) (n+30)).ex (a_ L c) rm G=
 lift (a_ L c) (bd (bd (bd (bd ((lk (z "script") L).map λv=>R.ok v G) λv G=>bd (some (.ok [] G)) λs G=>some (.ok (v::s) G)) λs G=>(run (TA q) (n+25)).call 1903 s G) λv G=>bd (bd (bd (some (.ok [] G)) λs G=>(run (TA q) (n+25)).dJ (.old 1893) s G) λv G=>bd (some (.ok [] G)) λs G=>some (.ok (v::s) G)) λs G=>some (.ok (v::s) G)) λs G=>if bS s.length&&!s.isEmpty then some (.ok (.ref G.length) (G.push (.tup s))) else .none) λv G=>fc (a_ L c) [z "deck",z "world"] v G:=by rfl'
abbrev oJ:Stmt:=(bodyOf 1932).getD 1 default
theorem Gn(L:List (Str×V))(c:Nat)(G:Hp):(run (TA q) (n+30)).ex (a_ L c) oJ G=
 lift (a_ L c) (bd (bd ((lk (z "world") L).map λv=>R.ok v G) λv G=>bd (some (.ok [] G)) λs G=>some (.ok (v::s) G)) λs G=>(run (TA q) (n+27)).call 1663 s G) λv G=>lift (a_ L c) ((lk (z "world") L).map λv=>R.ok v G) λo G=>d0 (a_ L c) (dQ (TA q) G o (z "root") v):=by rfl'
abbrev rn:Stmt:=(bodyOf 1932).getD 2 default
theorem Gp(L:List (Str×V))(c:Nat)(G:Hp):(run (TA q) (n+30)).ex (a_ L c) rn G=
 lift (a_ L c) (bd (bd ((lk (z "world") L).map λv=>R.ok v G) λv G=>bd (some (.ok [] G)) λs G=>some (.ok (v::s) G)) λs G=>(run (TA q) (n+27)).call 1927 s G) λv G=>some (.ok .next (put (z "known") v L) G):=by rfl'
abbrev eH:Stmt:=(bodyOf 1932).getD 3 default
theorem Gq(L:List (Str×V))(c:Nat)(G:Hp):(run (TA q) (n+30)).ex (a_ L c) eH G=
 lift (a_ L c) (bd (bd (bd (some (.ok (int 1) G)) λa G=>bd (bd (bd ((name (TA q) (a_ L c) G (z "deck")).map λv=>R.ok v G) λv G=>bd (bd (some (.ok (int 4) G)) λv G=>bd (some (.ok [] G)) λs G=>some (.ok (v::s) G)) λs G=>some (.ok (v::s) G)) λs G=>(run (TA q) (n+25)).call 1910 s G) λb G=>bin .Add G a b (TA q).bO) λv G=>bd (some (.ok [] G)) λs G=>some (.ok (v::s) G)) λs G=>(gG s).map λl=>R.ok l G) λxs G=>(run (TA q) (n+29)).fr (a_ L c) (z "lap") (cU eH) xs 0 G:=by rfl'
theorem Gs(L:List (Str×V))(c:Nat)(G:Hp)(v:V):bZ (a_ L c) G (z "lap") v=
 some ((a_ (put (z "lap") v L) c),G):=by rfl'
abbrev gz:Stmt:=(cU eH).getD 0 default
theorem Gu(L:List (Str×V))(c:Nat)(G:Hp):(run (TA q) (n+30)).ev ⟨bM (a_ [] c) (bU (bW gz)),L,[(z "deck",c)]⟩ (dj (bW gz)) G=
 bd (bd ((name (TA q) ⟨bM (a_ [] c) (bU (bW gz)),L,[(z "deck",c)]⟩ G (z "deck")).map λv=>R.ok v G) λv G=>bd (some (.ok [] G)) λs G=>some (.ok (v::s) G)) λs G=>(run (TA q) (n+28)).call 1922 s G:=by rfl'
theorem Gv(L:List (Str×V))(c:Nat)(G:Hp)(v:V):bZ ⟨bM (a_ [] c) (bU (bW gz)),L,[(z "deck",c)]⟩ G (z "turn") v=
 some (⟨bM (a_ [] c) (bU (bW gz)),put (z "turn") v L,[(z "deck",c)]⟩,G):=by rfl'
theorem Gw(L:List (Str×V))(c:Nat)(G:Hp):(run (TA q) (n+30)).ex (a_ L c) gz G=
 lift (a_ L c) (bd (bd (bd (bd (some (.ok (int 1) G)) λa G=>bd (bd (bd ((name (TA q) (a_ L c) G (z "deck")).map λv=>R.ok v G) λv G=>bd (bd (some (.ok (int 3) G)) λv G=>bd (some (.ok [] G)) λs G=>some (.ok (v::s) G)) λs G=>some (.ok (v::s) G)) λs G=>(run (TA q) (n+25)).call 1910 s G) λb G=>bin .Add G a b (TA q).bO) λv G=>bd (some (.ok [] G)) λs G=>some (.ok (v::s) G)) λs G=>(gG s).map λl=>R.ok l G) λxs G=>bd ((run (TA q) (n+29)).comp ⟨bM (a_ [] c) (bU (bW gz)),[],[(z "deck",c)]⟩ (dj (bW gz)) (z "turn") [] xs 0 [] G) λs G=>some (.ok (.ref G.length) (G.push (.list s.reverse)))) λv G=>some (.ok .next (put (z "parts") v L) G):=by rfl'
abbrev rt:Stmt:=(cU eH).getD 1 default
theorem Gx(L:List (Str×V))(d:Nat)(G:Hp):(run (TA q) (n+30)).ex (a_ L d) rt G=
 lift (a_ L d) (bd (bd (bd (bd ((lk (z "parts") L).map λv=>R.ok v G) λv G=>bd (some (.ok [] G)) λs G=>some (.ok (v::s) G)) λs G=>cF (TA q) (.bi 0) s G) λa G=>bd (some (.ok (int 1) G)) λb G=>(cmp (TA q) G .Eq a b).map λc=>R.ok (.bool c) G) λv G=>bX (truth v) (bd (bd (bd (bd ((name (TA q) (a_ L d) G (z "deck")).map λv=>R.ok v G) λv G=>bd (bd (some (.ok (int 2) G)) λv G=>bd (some (.ok [] G)) λs G=>some (.ok (v::s) G)) λs G=>some (.ok (v::s) G)) λs G=>(run (TA q) (n+23)).call 1910 s G) λa G=>bd (some (.ok (int 0) G)) λb G=>(cmp (TA q) G .Eq a b).map λc=>R.ok (.bool c) G) λv G=>(truth v).map λe=>R.ok v G) (some (.ok v G))) λv G=>some (.ok .next (put (z "is_alone") v L) G):=by rfl'
abbrev gT:Stmt:=(cU eH).getD 2 default
theorem Gy(L:List (Str×V))(c:Nat)(G:Hp):(run (TA q) (n+30)).ev ⟨bM (a_ [] c) (bU (aR (aR (bW gT)))),L,[(z "deck",c)]⟩ (dj (aR (aR (bW gT)))) G=
 bd ((lk (z "part") L).map λv=>R.ok v G) λv G=>bd (some (.ok (int 0) G)) λk G=>(sub (TA q) G v k).map λx=>R.ok x G:=by rfl'
theorem Gz(L:List (Str×V))(c:Nat)(G:Hp)(v:V):bZ ⟨bM (a_ [] c) (bU (aR (aR (bW gT)))),L,[(z "deck",c)]⟩ G (z "part") v=
 some (⟨bM (a_ [] c) (bU (aR (aR (bW gT)))),put (z "part") v L,[(z "deck",c)]⟩,G):=by rfl'
theorem GA(L:List (Str×V))(c:Nat)(G:Hp):(run (TA q) (n+30)).ex (a_ L c) gT G=
 lift (a_ L c) (bd ((lk (z "is_alone") L).map λv=>R.ok v G) λa G=>bX (truth a) (bd (bd ((lk (z "parts") L).map λv=>R.ok v G) λv G=>bd (some (.ok (int 0) G)) λk G=>(sub (TA q) G v k).map λx=>R.ok x G) λv G=>bd (some (.ok (int 0) G)) λk G=>(sub (TA q) G v k).map λx=>R.ok x G) (bd (bd (bd (some (.ok (.str (z "begin")) G)) λv G=>bd (some (.ok [] G)) λs G=>some (.ok (v::s) G)) λs G=>if bS s.length then some (.ok (.ref G.length) (G.push (.list s))) else .none) λa G=>bd (bd (bd ((lk (z "parts") L).map λv=>R.ok v G) λv G=>srcOf (TA q) G v) λxs G=>bd ((run (TA q) (n+26)).comp ⟨bM (a_ [] c) (bU (aR (aR (bW gT)))),[],[(z "deck",c)]⟩ (dj (aR (aR (bW gT)))) (z "part") [] xs 0 [] G) λs G=>some (.ok (.ref G.length) (G.push (.list s.reverse)))) λb G=>bin .Add G a b (TA q).bO)) λv G=>some (.ok .next (put (z "form") v L) G):=by rfl'
abbrev fE:Stmt:=(cU eH).getD 3 default
theorem GB(L:List (Str×V))(c:Nat)(G:Hp):(run (TA q) (n+30)).ev ⟨bM (a_ [] c) (bU (aL ((aE (bW fE)).getD 0 default))),L,[(z "deck",c)]⟩ (dj (aL ((aE (bW fE)).getD 0 default))) G=
 some (.ok (int 1) G):=by rfl'
theorem GC(L:List (Str×V))(c:Nat)(G:Hp):(run (TA q) (n+30)).tests ⟨bM (a_ [] c) (bU (aL ((aE (bW fE)).getD 0 default))),L,[(z "deck",c)]⟩ (iQ (aL ((aE (bW fE)).getD 0 default))) G=
 bd (bd ((lk (z "part") L).map λv=>R.ok v G) λv G=>bd (some (.ok (int 3) G)) λk G=>(sub (TA q) G v k).map λx=>R.ok x G) λv G=>(truth v).map λb=>R.ok b G:=by rfl'
theorem GD(L:List (Str×V))(c:Nat)(G:Hp)(v:V):bZ ⟨bM (a_ [] c) (bU (aL ((aE (bW fE)).getD 0 default))),L,[(z "deck",c)]⟩ G (z "part") v=
 some (⟨bM (a_ [] c) (bU (aL ((aE (bW fE)).getD 0 default))),put (z "part") v L,[(z "deck",c)]⟩,G):=by rfl'
theorem GF(L:List (Str×V))(d:Nat)(G:Hp):(run (TA q) (n+30)).ex (a_ L d) fE G=
 lift (a_ L d) (bd (bd (bd (bd (bd ((lk (z "parts") L).map λv=>R.ok v G) λv G=>srcOf (TA q) G v) λxs G=>bd ((run (TA q) (n+25)).comp ⟨bM (a_ [] d) (bU (aL ((aE (bW fE)).getD 0 default))),[],[(z "deck",d)]⟩ (dj (aL ((aE (bW fE)).getD 0 default))) (z "part") (iQ (aL ((aE (bW fE)).getD 0 default))) xs 0 [] G) λs G=>some (.ok (.ref G.length) (G.push (.list s.reverse)))) λa G=>bd (bd (some (.ok [] G)) λs G=>if bS s.length then some (.ok (.ref G.length) (G.push (.list s))) else .none) λb G=>(cmp (TA q) G .NotEq a b).map λc=>R.ok (.bool c) G) λv G=>bd (bd (bd (bd ((lk (z "known") L).map λv=>R.ok v G) λv G=>bd (some (.ok [] G)) λs G=>some (.ok (v::s) G)) λs G=>cF (TA q) (.ty 0) s G) λv G=>bd (some (.ok [] G)) λs G=>some (.ok (v::s) G)) λs G=>some (.ok (v::s) G)) λs G=>if bS s.length&&!s.isEmpty then some (.ok (.ref G.length) (G.push (.tup s))) else .none) λv G=>fc (a_ L d) [z "is_bad",z "due"] v G:=by rfl'
abbrev jw:Stmt:=(cU eH).getD 4 default
theorem GG(L:List (Str×V))(c:Nat)(G:Hp):(run (TA q) (n+30)).ex (a_ L c) jw G=
 lift (a_ L c) (bd ((lk (z "parts") L).map λv=>R.ok v G) λv G=>srcOf (TA q) G v) λxs G=>(run (TA q) (n+29)).fr (a_ L c) (z "part") (cU jw) xs 0 G:=by rfl'
theorem GH(L:List (Str×V))(c:Nat)(G:Hp)(v:V):bZ (a_ L c) G (z "part") v=
 some ((a_ (put (z "part") v L) c),G):=by rfl'
abbrev kj:Stmt:=(cU jw).getD 0 default
theorem GI(L:List (Str×V))(d:Nat)(G:Hp):(run (TA q) (n+30)).ex (a_ L d) kj G=
 lift (a_ L d) (bd (bd ((lk (z "part") L).map λv=>R.ok v G) λv G=>bd (some (.ok (int 1) G)) λk G=>(sub (TA q) G v k).map λx=>R.ok x G) λa G=>bd (some (.ok (.str (z "")) G)) λb G=>(cmp (TA q) G .NotEq a b).map λc=>R.ok (.bool c) G) λv G=>bX (truth v) ((run (TA q) (n+29)).ax (a_ L d) (dv kj) G) ((run (TA q) (n+29)).ax (a_ L d) (d_ kj) G):=by rfl'
abbrev rv:Stmt:=(dv kj).getD 0 default
theorem GJ(L:List (Str×V))(c:Nat)(G:Hp):(run (TA q) (n+30)).ex (a_ L c) rv G=
 lift (a_ L c) (bd (bd ((lk (z "part") L).map λv=>R.ok v G) λv G=>bd (some (.ok (int 2) G)) λk G=>(sub (TA q) G v k).map λx=>R.ok x G) λa G=>bX (truth a) (some (.ok (.str (z "macro")) G)) (some (.ok (.str (z "global")) G))) λv G=>lift (a_ L c) ((lk (z "due") L).map λv=>R.ok v G) λo G=>lift (a_ L c) (bd (some (.ok (.old 1898) G)) λv G=>ew (TA q) (run (TA q) (n+28)) v (z "index") (λG=>bd (bd ((lk (z "part") L).map λv=>R.ok v G) λv G=>bd (some (.ok (int 1) G)) λk G=>(sub (TA q) G v k).map λx=>R.ok x G) λv G=>bd (some (.ok [] G)) λs G=>some (.ok (v::s) G)) G) λi G=>d0 (a_ L c) (fj G o i v):=by rfl'
theorem GK:(dv kj)=[rv]:=by rfl'
theorem GL:(cU jw)=[kj]:=by rfl'
abbrev iU:Stmt:=(cU eH).getD 5 default
theorem GN(L:List (Str×V))(c:Nat)(G:Hp):(run (TA q) (n+30)).ex (a_ L c) iU G=
 iD (TA q) (a_ L c) (z "SyntaxTrouble") (z "nodes") ((run (TA q) (n+29)).ax (a_ L c) (kg iU) G):=by rfl'
abbrev rx:Stmt:=(kg iU).getD 0 default
theorem GO(L:List (Str×V))(c:Nat)(G:Hp):(run (TA q) (n+30)).ex (a_ L c) rx G=
 lift (a_ L c) (bd (bd (bd (bd ((lk (z "world") L).map λv=>R.ok v G) λv G=>bd (bd ((lk (z "form") L).map λv=>R.ok v G) λv G=>bd (some (.ok [] G)) λs G=>some (.ok (v::s) G)) λs G=>some (.ok (v::s) G)) λs G=>(run (TA q) (n+25)).call 1915 s G) λv G=>bd (bd ((lk (z "world") L).map λv=>R.ok v G) λv G=>bd (some (.ok [] G)) λs G=>some (.ok (v::s) G)) λs G=>some (.ok (v::s) G)) λs G=>(run (TA q) (n+27)).call 1806 s G) λv G=>some (.ok .next (put (z "nodes") v L) G):=by rfl'
theorem GP:(kg iU)=[rx]:=by rfl'
abbrev kl:Stmt:=(cU eH).getD 6 default
theorem v7(L:List (Str×V))(d:Nat)(G:Hp):(run (TA q) (n+30)).ex (a_ L d) kl G=
 lift (a_ L d) (bd (bd ((lk (z "nodes") L).map λv=>R.ok v G) λa G=>bd (some (.ok .none G)) λb G=>(cmp (TA q) G .Is a b).map λc=>R.ok (.bool c) G) λa G=>bd ((lk (z "is_bad") L).map λv=>R.ok v G) λb G=>(cmp (TA q) G .NotEq a b).map λc=>R.ok (.bool c) G) λv G=>bX (truth v) ((run (TA q) (n+29)).ax (a_ L d) (dv kl) G) ((run (TA q) (n+29)).ax (a_ L d) (d_ kl) G):=by rfl'
abbrev iV:Stmt:=(cU eH).getD 7 default
theorem v8(L:List (Str×V))(c:Nat)(G:Hp):(run (TA q) (n+30)).ex (a_ L c) iV G=
 lift (a_ L c) (bd ((lk (z "is_bad") L).map λv=>R.ok v G) λa G=>(truth a).map λb=>R.ok (.bool (!b)) G) λv G=>bX (truth v) ((run (TA q) (n+29)).ax (a_ L c) (dv iV) G) ((run (TA q) (n+29)).ax (a_ L c) (d_ iV) G):=by rfl'
abbrev v9:Stmt:=(dv iV).getD 0 default
theorem GQ(L:List (Str×V))(c:Nat)(G:Hp):(run (TA q) (n+30)).ex (a_ L c) v9 G=
 lift (a_ L c) ((lk (z "due") L).map λv=>R.ok v G) λv G=>some (.ok .next (put (z "known") v L) G):=by rfl'
theorem GR:(dv iV)=[v9]:=by rfl'
abbrev eX:Stmt:=(cU eH).getD 8 default
theorem GS(L:List (Str×V))(c:Nat)(G:Hp):(run (TA q) (n+30)).ev ⟨bM (a_ [] c) (bU ((aE (aR ((aE ((aE (bW eX)).getD 1 default)).getD 1 default))).getD 0 default)),L,[(z "deck",c)]⟩ (dj ((aE (aR ((aE ((aE (bW eX)).getD 1 default)).getD 1 default))).getD 0 default)) G=
 some (.ok (int 1) G):=by rfl'
theorem GU(L:List (Str×V))(c:Nat)(G:Hp):(run (TA q) (n+30)).tests ⟨bM (a_ [] c) (bU ((aE (aR ((aE ((aE (bW eX)).getD 1 default)).getD 1 default))).getD 0 default)),L,[(z "deck",c)]⟩ (iQ ((aE (aR ((aE ((aE (bW eX)).getD 1 default)).getD 1 default))).getD 0 default)) G=
 bd (bd (bd ((lk (z "part") L).map λv=>R.ok v G) λv G=>bd (some (.ok (int 2) G)) λk G=>(sub (TA q) G v k).map λx=>R.ok x G) λa G=>(truth a).map λb=>R.ok (.bool (!b)) G) λv G=>(truth v).map λb=>R.ok b G:=by rfl'
theorem GV(L:List (Str×V))(c:Nat)(G:Hp)(v:V):bZ ⟨bM (a_ [] c) (bU ((aE (aR ((aE ((aE (bW eX)).getD 1 default)).getD 1 default))).getD 0 default)),L,[(z "deck",c)]⟩ G (z "part") v=
 some (⟨bM (a_ [] c) (bU ((aE (aR ((aE ((aE (bW eX)).getD 1 default)).getD 1 default))).getD 0 default)),put (z "part") v L,[(z "deck",c)]⟩,G):=by rfl'
theorem GW(L:List (Str×V))(d:Nat)(G:Hp):(run (TA q) (n+30)).ex (a_ L d) eX G=
 lift (a_ L d) (bd (bd (bd (bd ((lk (z "world") L).map λv=>R.ok v G) λv G=>bd (some (.ok [] G)) λs G=>some (.ok (v::s) G)) λs G=>(run (TA q) (n+24)).call 1927 s G) λa G=>bd ((lk (z "known") L).map λv=>R.ok v G) λb G=>(cmp (TA q) G .NotEq a b).map λc=>R.ok (.bool c) G) λv G=>bX (truth v) (some (.ok v G)) (bd (bd (bd ((lk (z "nodes") L).map λv=>R.ok v G) λa G=>bd (some (.ok .none G)) λb G=>(cmp (TA q) G .IsNot a b).map λc=>R.ok (.bool c) G) λv G=>bX (truth v) (bd (bd (bd (bd ((lk (z "nodes") L).map λv=>R.ok v G) λv G=>bd (some (.ok [] G)) λs G=>some (.ok (v::s) G)) λs G=>cF (TA q) (.bi 0) s G) λa G=>bd (bd (bd (bd (bd ((lk (z "parts") L).map λv=>R.ok v G) λv G=>srcOf (TA q) G v) λxs G=>bd ((run (TA q) (n+19)).comp ⟨bM (a_ [] d) (bU ((aE (aR ((aE ((aE (bW eX)).getD 1 default)).getD 1 default))).getD 0 default)),[],[(z "deck",d)]⟩ (dj ((aE (aR ((aE ((aE (bW eX)).getD 1 default)).getD 1 default))).getD 0 default)) (z "part") (iQ ((aE (aR ((aE ((aE (bW eX)).getD 1 default)).getD 1 default))).getD 0 default)) xs 0 [] G) λs G=>some (.ok (.ref G.length) (G.push (.list s.reverse)))) λv G=>bd (some (.ok [] G)) λs G=>some (.ok (v::s) G)) λs G=>cF (TA q) (.bi 0) s G) λb G=>(cmp (TA q) G .NotEq a b).map λc=>R.ok (.bool c) G) λv G=>(truth v).map λe=>R.ok v G) (some (.ok v G))) λv G=>(truth v).map λe=>R.ok v G)) λv G=>bX (truth v) ((run (TA q) (n+29)).ax (a_ L d) (dv eX) G) ((run (TA q) (n+29)).ax (a_ L d) (d_ eX) G):=by rfl'
theorem v_:(cU eH)=[gz,rt,gT,fE,jw,iU,kl,iV,eX]:=by rfl'
abbrev ry:Stmt:=(bodyOf 1932).getD 4 default
theorem GX(L:List (Str×V))(c:Nat)(G:Hp):(run (TA q) (n+30)).ex (a_ L c) ry G=
 lift (a_ L c) (some (.ok (.bool true) G)) λv G=>some (.ok (.ret v) L G):=by rfl'
abbrev fF(L:List (Str×V)):En:=⟨dh 479,L,[]⟩
abbrev wb:Stmt:=(bodyOf 479).getD 0 default
theorem GY(L:List (Str×V))(G:Hp):(run (TA q) (n+30)).ex (fF L) wb G=
 lift (fF L) ((lk (z "car") L).map λv=>R.ok v G) λv G=>lift (fF L) ((lk (z "self") L).map λv=>R.ok v G) λo G=>d0 (fF L) (dQ (TA q) G o (z "car") v):=by rfl'
abbrev wc:Stmt:=(bodyOf 479).getD 1 default
theorem GZ(L:List (Str×V))(G:Hp):(run (TA q) (n+30)).ex (fF L) wc G=
 lift (fF L) ((lk (z "cdr") L).map λv=>R.ok v G) λv G=>lift (fF L) ((lk (z "self") L).map λv=>R.ok v G) λo G=>d0 (fF L) (dQ (TA q) G o (z "cdr") v):=by rfl'
abbrev wd:Stmt:=(bodyOf 479).getD 2 default
theorem G0(L:List (Str×V))(G:Hp):(run (TA q) (n+30)).ex (fF L) wd G=
 lift (fF L) (some (.ok .none G)) λv G=>lift (fF L) ((lk (z "self") L).map λv=>R.ok v G) λo G=>d0 (fF L) (dQ (TA q) G o (z "mark") v):=by rfl'
theorem bE{b c:Type}{a:b}{G:Hp}{f:b->Hp->Option (R c)}:bd (some (.ok a G)) f=f a G:=rfl
theorem we{a b:Type}{G:Hp}{f:a->Hp->Option (R b)}:bd (some (.exc G)) f=some (.exc G):=rfl
theorem bK{b:Type}{Y:En}{a:b}{G:Hp}{f:b->Hp->Option RS}:lift Y (some (.ok a G)) f=f a G:=rfl
theorem l_{a:Type}{Y:En}{G:Hp}{f:a->Hp->Option RS}:lift Y (some (.exc G)) f=some (.exc Y.loc G):=rfl
theorem dw{a:Type}{b:Bool}{x y:Option a}:bX (some b) x y=bif b then x else y:=by cases b<;>rfl
theorem di{b:Bool}:truth (.bool b)=some b:=rfl
noncomputable def bP(L l:List (Str×V)):Prop:=∀y v,lk y l=some v->lk y L=some v
theorem bP.refl(l):bP l l:=λa b h=>h
theorem jx(x y:Str)(v:V)(l:List (Str×V)):lk y (put x v l)=if y=x then some v else lk y l:=by rw[dr,dr,jP]
theorem bP.put{L l}(h:bP L l)(x:Str)(v:V):bP (put x v L) (put x v l):=λy w e=>by
 rw[jx] at e⊢
 split at e
 ·rename_i q;rw[if_pos q];exact e
 ·rename_i q;rw[if_neg q];exact h y w e
theorem bP.mk{L:List (Str×V)}:∀{l:List (Str×V)},(∀p∈l,lk p.1 L=some p.2)->bP L l
 |[],_,y,v,e=>by ext e
 |p::l,h,y,v,e=>by
  rw[jN] at e
  cases s:sq y p.1
  ·rw[s] at e;exact bP.mk (λx a=>h x (.tail _ a)) y v e
  ·rw[s] at e;ext e;rw[d7.mp s];exact h p (.head _)
theorem bP.sub{L l a}(h:bP L l)(k:∀p∈a,lk p.1 l=some p.2):bP L a:=.mk λp b=>h _ _ (k p b)
noncomputable def Gr(G U:Hp):Prop:=G.length<=U.length/\∀j,j<G.length->U.get j=G.get j
theorem Gr.refl(G):Gr G G:=⟨Nat.le_refl _,λa b=>rfl⟩
theorem Gr.trans{a b c}(h:Gr a b)(k:Gr b c):Gr a c:=⟨Nat.le_trans h.1 k.1,λj d=>by rw[k.2 j (Nat.lt_of_lt_of_le d h.1),h.2 j d]⟩
theorem Gr.push(G o):Gr G (G.push o):=⟨by rw[Hp.length_push];lia,λj h=>Hp.eT h⟩
theorem Gr.at{G U a o}(h:Gr G U)(e:G.get a=some o):U.get a=some o:=by rw[h.2 a (Hp.cj e)];exact e
theorem bN.gr{d G U a}(h:bN d G U)(k:Gr U a):bN d G a:=h.trans ⟨k.1,λj b c=>k.2 j b⟩
theorem Gr.only{G U}(h:Gr G U)(d):bN d G U:=⟨h.1,λj a b=>h.2 j a⟩
theorem Gr.of{al G U}(h:Fr [] al G U):Gr G U:=⟨h.1,h.nil⟩
theorem Gr.fr{al G U}(h:Gr G U):Fr [] al G U:=⟨h.1,λj a b=>h.2 j a⟩
variable{T:Tb}{F:Fs}{G:Hp}
theorem jy{i C d f:Nat}{a:Str}(h:G.get i=some (.inst C d))(b:dZ T C d a G=some f):ew T F (.ref i) a k G=bd (k G) λv G=>F.call f (.ref i::v) G:=by
 unfold ew fQ
 simp only[h,b]
theorem ik{i:Nat}{xs:List V}{a:Str}{m:Nat}(h:G.get i=some (.list xs))(c:f9 a=m)(b:m=1\/m=2\/m=3):ew T F (.ref i) a k G=bd (k G) λv G=>cf T (.ref i) m v G:=by
 unfold ew
 rw[vH h,c]
 rcases b with rfl|rfl|rfl<;>rfl
theorem append_at{i:Nat}{xs:List V}{v:V}(h:G.get i=some (.list xs))(l:xs.length<4096):cf T (.ref i) 1 [v] G=some (.ok .none (G.set i (.list (xs++[v])))):=by
 unfold cf i0
 simp only[h,eF l,if_true]
theorem pop_at{i:Nat}{xs:List V}{v:V}(h:G.get i=some (.list (xs++[v])))(l:xs.length<4000):cf T (.ref i) 2 [] G=some (.ok v (G.set i (.list xs))):=by
 unfold cf i5
 simp only[h]
 rw[if_pos (eF (by simp;lia))]
 simp
theorem il{i:Nat}{xs:List V}(h:G.get i=some (.list xs))(l:xs.length<4096):cF T (.bi 0) [.ref i] G=some (.ok (int xs.length) G):=by
 unfold cF iZ
 simp only[h,eF l,if_true];rfl
theorem jz{i C d:Nat}{e:List (V×V)}{a:Str}{v:V}(h:G.get i=some (.inst C d))(b:eY T C a=true)(f:G.get d=some (.dict e))(g:cb (.str a) e=some v)(c:fK (some v)=some v):dq T G (.ref i) a=some v:=by
 unfold dq
 simp only[h,b,if_true,f,g,c]
theorem oK{i C d:Nat}{e:List (V×V)}{a:Str}{v:V}(h:G.get i=some (.inst C d))(b:eY T C a=true)(c:G.get d=some (.dict e))(l:e.length<900):dQ T G (.ref i) a v=some (G.set d (.dict (dput (.str a) v e))):=by
 unfold dQ
 simp only[h,b,if_true,c,EF l]
theorem rA{i k:Nat}{xs:List V}{v:V}(h:G.get i=some (.list xs))(a:k<4096)(b:xs[k]? =some v):sub T G (.ref i) (int k)=some v:=by
 show(if inR (int k|>λc=>(.ofNat k:Int))=true then(fN T G (.ref i)).bind λxs=>xs[(Int.ofNat k).toNat]? else none)=_
 rw[if_pos (show inR (.ofNat k)=true from eF a)]
 unfold fN
 simp only[h]
 exact b
theorem oN{i k:Nat}{xs:List V}{v:V}(h:G.get i=some (.tup xs))(a:k<4096)(b:xs[k]? =some v):sub T G (.ref i) (int k)=some v:=by
 show(if inR (.ofNat k)=true then(fN T G (.ref i)).bind λxs=>xs[(Int.ofNat k).toNat]? else none)=_
 rw[if_pos (show inR (.ofNat k)=true from eF a)]
 unfold fN
 simp only[h]
 exact b
end
def pairD(x w:V):List (V×V):=[(.str (z "car"),x),(.str (z "cdr"),w),(.str (z "mark"),.none)]
noncomputable def Ch(l:Nat)(G:Hp):V->List V->Prop
 |v,[]=>v=.old 374
 |v,x::xs=>∃p d w,v=.ref p/\l<=p/\l<=d/\G.get p=some (.inst 482 d)/\G.get d=some (.dict (pairD x w))/\Ch l G w xs
theorem Ch.mono{lo G U}(h:∀a o,lo<=a->G.get a=some o->U.get a=some o):∀{xs v},Ch lo G v xs->Ch lo U v xs:=by
 intro xs
 induction xs with
 |nil=>intro v c;exact c
 |cons x xs i=>
  intro v c
  obtain⟨p,d,w,e,l,b,f,g,c⟩:=c
  exact⟨p,d,w,e,l,b,h _ _ l f,h _ _ b g,i c⟩
theorem Ch.gr{lo G U}(h:Gr G U){xs v}(c:Ch lo G v xs):Ch lo U v xs:=c.mono λa o b e=>h.at e
theorem wg{x w y a:V}(h:pairD x w=pairD y a):x=y/\w=a:=by
 unfold pairD at h
 simp only[List.cons.injEq,Prod.mk.injEq,true_and,and_true] at h
 exact h
theorem Ch.det{lo G}{xs ys:List V}{v:V}(f:Ch lo G v xs)(a:Ch lo G v ys):xs=ys:=by
 induction xs generalizing ys v with
 |nil=>cases ys with
  |nil=>rfl
  |cons y ys=>
   obtain⟨p,d,w,e,q⟩:=a
   exact V.noConfusion ((show v=.old 374 from f).symm.trans e)
 |cons x xs l=>
  obtain⟨p,d,w,e,q,r,j,k,c⟩:=f
  cases ys with
  |nil=>exact V.noConfusion ((show v=.old 374 from a).symm.trans e)
  |cons y ys=>
   obtain⟨n,m,o,i,q,r,h,b,g⟩:=a
   obtain rfl:=V.ref.inj (e.symm.trans i)
   obtain rfl:=(O.inst.inj (Option.some.inj (j.symm.trans h))).2
   obtain⟨rfl,rfl⟩:=wg (O.dict.inj (Option.some.inj (k.symm.trans b)))
   rw[l c g]
section
variable{q:Option (Nat×List V)}{n:Nat}
theorem G1(a:Nat)(x y:V)(G:Hp):(run (TA q) (n+36)).dJ (.old 482) [x,y] G=bd (callEnd ((run (TA q) (n+34)).ax (fF [(z "self",.ref (G.length+1)),(z "car",x),(z "cdr",y)]) [wb,wc,wd] ((G.push (.dict [])).push (.inst 482 G.length)))) λr H=>if cM r .none then kO (.ref (G.length+1)) H else .none:=by rfl'
theorem km:eY (TA q) 482 (z "car")=true/\eY (TA q) 482 (z "cdr")=true/\eY (TA q) 482 (z "mark")=true:=⟨by rfl',by rfl',by rfl'⟩
theorem rB(x y:V):dput (.str (z "car")) x []=[(.str (z "car"),x)]/\dput (.str (z "cdr")) y [(.str (z "car"),x)]=[(.str (z "car"),x),(.str (z "cdr"),y)]/\dput (.str (z "mark")) .none [(.str (z "car"),x),(.str (z "cdr"),y)]=pairD x y:=⟨by rfl',by rfl',by rfl'⟩
theorem G2(N:40<=n)(x y:V)(G:Hp):∃H,(run (TA q) n).dJ (.old 482) [x,y] G=some (.ok (.ref (G.length+1)) H)/\H.get (G.length+1)=some (.inst 482 G.length)/\H.get G.length=some (.dict (pairD x y))/\Gr G H:=by
 obtain⟨n,rfl⟩:∃k,n=k+36:=⟨n-36,by omega⟩
 generalize b:(G.push (.dict [])).push (.inst 482 G.length)=a
 have p:a.length=G.length+2:=by rw[←b,Hp.length_push,Hp.length_push]
 have g:a.get (G.length+1)=some (.inst 482 G.length):=by
  rw[←b]
  have:=Hp.cB (G.push (.dict [])) (.inst 482 G.length)
  rwa [Hp.length_push] at this
 have w:a.get G.length=some (.dict []):=by
  rw[←b,Hp.eT (by rw[Hp.length_push];lia),Hp.cB]
 have B:∀j,j<G.length->a.get j=G.get j:=λj c=>by
  rw[←b,Hp.eT (by rw[Hp.length_push];omega),Hp.eT c]
 have e:∀(s:Hp) (o:O),s.length=G.length+2->(s.set G.length o).length=G.length+2/\(s.set G.length o).get G.length=some o/\∀j,j≠G.length->(s.set G.length o).get j=s.get j:=λs o C=>
  ⟨by rw[Hp.length_set,C],Hp.eN (by lia),λj c=>Hp.eg (Ne.symm c)⟩
 obtain⟨K,t,d⟩:=e a (.dict [(.str (z "car"),x)]) p
 obtain⟨L,u,f⟩:=e _ (.dict [(.str (z "car"),x),(.str (z "cdr"),y)]) K
 obtain⟨M,v,r⟩:=e _ (.dict (pairD x y)) L
 have h:G.length+1≠G.length:=by lia
 have i:=GY (q:=q) (n:=n+3) [(z "self",.ref (G.length+1)),(z "car",x),(z "cdr",y)] a
 have l:=GZ (q:=q) (n:=n+2) [(z "self",.ref (G.length+1)),(z "car",x),(z "cdr",y)] (a.set G.length (.dict [(.str (z "car"),x)]))
 have m:=G0 (q:=q) (n:=n+1) [(z "self",.ref (G.length+1)),(z "car",x),(z "cdr",y)] ((a.set G.length (.dict [(.str (z "car"),x)])).set G.length (.dict [(.str (z "car"),x),(.str (z "cdr"),y)]))
 have D:lk (z "self") [(z "self",V.ref (G.length+1)),(z "car",x),(z "cdr",y)]=some (.ref (G.length+1)):=by rfl'
 have E:lk (z "car") [(z "self",V.ref (G.length+1)),(z "car",x),(z "cdr",y)]=some x:=by rfl'
 have F:lk (z "cdr") [(z "self",V.ref (G.length+1)),(z "car",x),(z "cdr",y)]=some y:=by rfl'
 simp only[D,E,F,Option.map_some,bK,d0] at i l m
 rw[oK g km.1 w (by decide),(rB x y).1] at i
 rw[oK (by rw[d _ h];exact g) km.2.1 t (by simp),(rB x y).2.1] at l
 rw[oK (by rw[f _ h,d _ h];exact g) km.2.2 u (by simp),(rB x y).2.2] at m
 refine⟨_,?_,?_,v,?_,λj c=>?_⟩
 ·rw[G1 0,b,bJ i]
  erw [bJ l,bJ m]
  rfl
 ·rw[r _ h,f _ h,d _ h];exact g
 ·rw[M];lia
 ·rw[r _ (by omega),f _ (by omega),d _ (by omega)];exact B j c
theorem G3{T:Tb}{n:Nat}{Y:En}{s:Stmt}{G A:Hp}{Q:List (Str×V)}(h:(run T (n+1)).ex Y s G=some (.ok .next Q A)):(run T (n+2)).ax Y [s] G=some (.ok .next Q A):=by
 rw[bJ h];rfl
theorem G4{k:Nat}(b:k<4096):gG [.int (.ofNat k-.ofNat 1),.int (-1),.int (-1)]=some (.cY (.ofNat k-.ofNat 1) (-1) k):=by
 have h:dY (-1) (.ofNat k-.ofNat 1)=true:=kZ.mpr (by simp only[Int.ofNat_eq_natCast];lia)
 have a:dY (.ofNat k-.ofNat 1) 4095=true:=kZ.mpr (by simp only[Int.ofNat_eq_natCast];lia)
 show(if(true&&true&&dY (-1) (.ofNat k-.ofNat 1)&&dY (.ofNat k-.ofNat 1) 4095)=true then some (Src.cY (.ofNat k-.ofNat 1) (-1) (Int.ofNat k-.ofNat 1+1).toNat) else none)=_
 rw[h,a]
 show some (Src.cY _ _ _)=_
 congr 2
 show((k:Int)-1+1).toNat=k
 rw[Int.sub_add_cancel];rfl
theorem G5{q G}{k i r:Nat}(h:r+1+i=k):cz (TA q) G (.cY (.ofNat k-.ofNat 1) (-1) k) i=some (some (int r)):=by
 show some (bif Nat.ble (Nat.succ i) k then some (V.int (Int.ofNat k-.ofNat 1+-1*.ofNat i)) else none)=_
 rw[Nat.ble_eq_true_of_le (by lia),cond_true]
 have:Int.ofNat k-.ofNat 1+-1*.ofNat i=.ofNat r:=by simp only[Int.ofNat_eq_natCast];lia
 rw[this];rfl
theorem rC{q G}{k:Nat}{a c:Int}:cz (TA q) G (.cY a c k) k=some none:=by
 show some (bif Nat.ble (Nat.succ k) k then _ else none)=_
 have:Nat.ble (Nat.succ k) k=false:=by rw[Bool.eq_false_iff];intro h;have:=Nat.le_of_ble_eq_true h;lia
 rw[this];rfl
theorem G6{a k lo:Nat}{vs:List V}(R:vs.length=k)(C:k<4096):∀(r i:Nat) (L:List (Str×V)) (G:Hp) (v:V) (n:Nat),r+i=k->r<=n->bP L [(z "things",.ref a),(z "found",v)]->G.get a=some (.list vs)->lo<=G.length->Ch lo G v (vs.drop r)->
 ∃b H d,(run (TA q) (n+90)).fr (eV L) (z "place") (cU iT) (.cY (.ofNat k-.ofNat 1) (-1) k) i G=some (.ok .next b H)/\bP b [(z "found",d)]/\Ch lo H d vs/\Gr G H:=by
 intro r
 induction r with
 |zero=>
  intro i L G v n B D f o l c
  obtain rfl:i=k:=by lia
  exact⟨L,G,v,og rC,f.sub (List.forall_mem_singleton.mpr (by rfl')),by rwa [List.drop_zero] at c,Gr.refl _⟩
 |succ r E=>
  intro i L G v n B D f o l c
  obtain⟨n,rfl⟩:∃m,n=m+1:=⟨n-1,by omega⟩
  have p:r<vs.length:=by lia
  obtain⟨A,N,O,P,g⟩:=G2 (q:=q) (n:=n+59+28) (by lia) vs[r] v G
  have h:=f.put (z "place") (int r)
  have e:=FJ (q:=q) (n:=n+59) (put (z "place") (int r) L) G
  have F:lk (z "things") (put (z "place") (int r) L)=some (.ref a):=h _ _ (by rfl')
  have K:lk (z "place") (put (z "place") (int r) L)=some (int r):=h _ _ (by rfl')
  have M:lk (z "found") (put (z "place") (int r) L)=some v:=h _ _ (by rfl')
  simp only[F,K,M,Option.map_some,bE,rA (T:=TA q) o (show r<4096 by lia) (List.getElem?_eq_getElem p),N,bK] at e
  have j:=h.put (z "found") (.ref (G.length+1))
  have s:Ch lo A (.ref (G.length+1)) (vs.drop r):=by
   rw[List.drop_eq_getElem_cons p]
   exact⟨_,_,v,rfl,by omega,l,O,P,c.gr g⟩
  obtain⟨b,H,d,u,x,t,w⟩:=E (i+1) _ A (.ref (G.length+1)) n (by lia) (by omega) (j.sub (List.forall_mem_cons.mpr ⟨by rfl',List.forall_mem_singleton.mpr (by rfl')⟩)) (g.at o) (Nat.le_trans l g.1) s
  refine⟨b,H,d,?_,x,t,g.trans w⟩
  have y:(run (TA q) (n+90)).ax (eV (put (z "place") (int r) L)) (cU iT) G=some (.ok .next (put (z "found") (.ref (G.length+1)) (put (z "place") (int r) L)) A):=by
   rw[FK]
   exact G3 (n:=n+88) e
  rw[oh (G5 (by omega)) (FI L G (int r)) y]
  exact u
theorem G7(v:V)(G:Hp):(run (TA q) (n+40)).call 557 [v] G=callEnd ((run (TA q) (n+39)).ax (eV [(z "things",v),(z "tail",.old 374)]) [qR,iT,qS] G):=by rfl'
theorem G8{a lo:Nat}{s:List V}{G:Hp}(g:G.get a=some (.list s))(x:s.length<=20)(l:lo<=G.length)(y:120<=n):
 ∃v H,(run (TA q) n).call 557 [.ref a] G=some (.ok v H)/\Ch lo H v s/\Gr G H:=by
 obtain⟨n,rfl⟩:∃k,n=k+120:=⟨n-120,by omega⟩
 have c:=FG (q:=q) (n:=n+88) [(z "things",.ref a),(z "tail",.old 374)] G
 have t:lk (z "tail") [(z "things",V.ref a),(z "tail",.old 374)]=some (.old 374):=by rfl'
 simp only[t,Option.map_some,bK] at c
 generalize h:put (z "found") (.old 374) [(z "things",V.ref a),(z "tail",.old 374)]=L at c
 have h:bP L [(z "things",.ref a),(z "found",.old 374)]:=by
  rw[←h]
  exact .mk (List.forall_mem_cons.mpr ⟨by rfl',List.forall_mem_singleton.mpr (by rfl')⟩)
 have e:=FH (q:=q) (n:=n+87) L G
 have u:lk (z "things") L=some (.ref a):=h _ _ (by rfl')
 have r:bin .Sub G (int s.length) (int 1) (TA q).bO=some (.ok (.int (.ofNat s.length-.ofNat 1)) G):=rfl
 simp only[u,Option.map_some,bE,il (T:=TA q) g (show s.length<4096 by omega),r,G4 (show s.length<4096 by omega),bK] at e
 obtain⟨b,H,d,j,p,i,m⟩:=G6 (q:=q) (lo:=lo) (a:=a) (vs:=s) rfl (by omega) s.length 0 L G (.old 374) (n+26) (by lia) (by omega) h g l (by rw[List.drop_length];rfl)
 have e:=e.trans j
 have f:=FL (q:=q) (n:=n+86) b H
 have w:lk (z "found") b=some d:=p _ _ (by rfl')
 simp only[w,Option.map_some,bK] at f
 refine⟨d,H,?_,i,m⟩
 rw[G7 (n:=n+80)]
 have o:(run (TA q) (n+88+31)).ax (eV [(z "things",.ref a),(z "tail",.old 374)]) [qR,iT,qS] G=some (.ok (.ret d) b H):=by
  rw[bJ c,bJ (n:=n+87+30) e,gP (n:=n+86+30) f]
 exact(congrArg callEnd o).trans rfl
theorem Ch.keep{o t:Nat}{G U:Hp}{l:List V}(g:G.get t=some (.list l))(h:∀a,a≠t->a<G.length->U.get a=G.get a):∀{xs v},Ch o G v xs->Ch o U v xs:=by
 intro xs
 induction xs with
 |nil=>intro v c;exact c
 |cons x xs k=>
  intro v c
  obtain⟨p,d,w,e,m,n,b,f,c⟩:=c
  have j:p≠t:=λq=>by rw[q,g] at b;ext b
  have i:d≠t:=λq=>by rw[q,g] at f;ext f
  exact⟨p,d,w,e,m,n,by rw[h p j (Hp.cj b)];exact b,by rw[h d i (Hp.cj f)];exact f,k c⟩
theorem Ch.wh{lo G xs v}(c:Ch lo G v xs):fK (some v)=some v:=by
 cases xs with
 |nil=>rw[show v=.old 374 from c];rfl
 |cons x xs=>obtain⟨p,d,w,e,a⟩:=c;rw[e];rfl
theorem G9{p d:Nat}{G:Hp}(h:G.get p=some (.inst 482 d)):cF (TA q) (.bi 2) [.ref p,.old 482] G=some (.ok (.bool true) G):=by
 unfold cF fh ey e_
 simp only[h]
 rfl'
theorem G_{G:Hp}:cF (TA q) (.bi 2) [.old 374,.old 482] G=some (.ok (.bool false) G):=by rfl'
theorem ma{T:Tb}{Y:En}{t:Expr}{b:List Stmt}{G:Hp}:(run T (n+1)).cA Y t b G=lift Y ((run T n).ev Y t G) λv G=>bX (truth v) (dS ((run T n).ax Y b G) λQ G=>(run T n).cA ⟨Y.sc,Q,Y.bF⟩ t b G) (some (.ok .next Y.loc G)):=rfl
theorem Ha{G:Hp}{m k:Nat}{o}(h:0<k):bin .Mod G (int m) (int k) o=some (.ok (int (m % k)) G):=sr h
theorem md{T:Tb}{G:Hp}{m k:Nat}:cmp T G .Eq (int m) (int k)=some (Nat.beq m k):=rfl
theorem Hb{lo G v w xs z}(c:Ch lo G v xs)(g:Ch lo G w z)(h:xs.length<z.length):cmp (TA q) G .Is v w=some false:=by
 cases z with
 |nil=>ext h
 |cons x z=>
  obtain⟨a,i,k,f,o,r,b,s⟩:=g
  cases xs with
  |nil=>
   rw[show v=.old 374 from c,f]
   show eb (G.get a)=_
   rw[b];rfl
  |cons y ys=>
   have d:=c
   obtain⟨p,l,m,e,o,r,j,s⟩:=c
   have n:p≠a:=λq=>by
    subst q
    rw[e] at d
    have:=d.det (ys:=x::z) ⟨p,i,k,rfl,‹_›,‹_›,b,‹_›⟩
    rw[this] at h;lia
   rw[e,f]
   show(if Nat.beq p a=true then _ else(eb (G.get p)).bind λo=>eb (G.get a))=_
   rw[if_neg (λq=>n (Nat.eq_of_beq_eq_true q)),j,b];rfl
theorem Hc{d:Nat}(h:(d+1) % 2≠0):(d+1)/2=d/2:=by
 refine Nat.div_eq_of_lt_le (Nat.le_succ_of_le (Nat.div_mul_le_self d 2)) ?_
 have e:d % 2=0:=(Nat.mod_two_eq_zero_or_one d).resolve_right λq=>h (by rw[Nat.add_mod,q])
 have e:d/2*2=d:=Nat.div_mul_cancel (Nat.dvd_of_mod_eq_zero e)
 rw[Nat.add_mul,e];exact Nat.lt_succ_self _
theorem He{d:Nat}(h:(d+1) % 2=0):(d+1)/2=d/2+1:=by
 have e:d % 2=1:=(Nat.mod_two_eq_zero_or_one d).resolve_left λq=>by rw[Nat.add_mod,q] at h;cases h
 have e:d/2*2+1=d:=(Nat.mul_comm _ 2▸e▸Nat.div_add_mod d 2:_)
 refine Nat.div_eq_of_lt_le ?_ ?_
 ·rw[Nat.add_mul];exact Nat.succ_le_succ (Nat.le_of_eq e)
 ·rw[Nat.add_mul,Nat.add_mul];exact Nat.lt_of_le_of_lt (Nat.le_of_eq (congrArg (·+1) e.symm)) (Nat.lt_of_lt_of_le (Nat.lt_succ_self _) (by exact Nat.le_succ _))
theorem Hf{v u d:Nat}(z:u+d/2=v)(h:(d+1) % 2≠0):u+(d+1)/2=v:=by rw[Hc h];exact z
theorem Hg{v u d:Nat}(z:u+1+d/2=v)(h:(d+1) % 2=0):u+(d+1)/2=v:=by rw[He h];exact(Nat.add_right_comm u (d/2) 1).trans z
theorem Hh{v u d x:Nat}(l:v=d+(x+1))(z:u+1+d/2=v)(h:(d+1) % 2=0):x<u:=
 Nat.lt_of_not_le λc=>Nat.ne_of_lt (Nat.add_lt_add_of_le_of_lt (Nat.succ_le_succ c) (Nat.div_lt_self (Nat.pos_of_ne_zero λq=>by rw[q] at h;cases h) (by decide))) (z.trans (l.trans (Nat.add_comm _ _)))
theorem Hi{v d x:Nat}(h:v=d+(x+1))(z:0+d/2=v):False:=
 absurd (z.symm.trans (Nat.zero_add _)) (Nat.ne_of_gt (Nat.lt_of_le_of_lt (Nat.div_le_self _ 2) (Nat.lt_of_lt_of_eq (Nat.lt_add_of_pos_right (Nat.succ_pos _)) h.symm)))
theorem Hj{ta lo:Nat}{u:List V}(hv:∀x∈u,fK (some x)=some x)(hk:u.length<=20):∀(xs done B:List V) (t s:V) (L:List (Str×V)) (G:Hp) (n:Nat),xs.length<=n->u=done++xs->
 bP L [(z "things",.ref ta),(z "at",t),(z "slow",s)]->G.get ta=some (.list done)->Ch lo G t xs->Ch lo G s B->B.length+done.length/2=u.length->
 ∃C H,(run (TA q) (n+90)).cA (cy L) (eu eG) (cT eG) G=some (.ok .next C H)/\bP C [(z "things",.ref ta),(z "at",.old 374)]/\H.get ta=some (.list u)/\bN ta G H:=by
 intro xs
 induction xs with
 |nil=>
  intro done B t s L G n hn v E j c c2 K
  rw[show t=.old 374 from c] at E
  refine⟨L,G,?_,E.sub (List.forall_mem_cons.mpr ⟨by rfl',List.forall_mem_singleton.mpr (by rfl')⟩),by rw[v,List.append_nil];exact j,bN.refl _ _⟩
  have e:=vY (q:=q) (n:=n+59) L G
  have k1:lk (z "at") L=some (.old 374):=E _ _ (by rfl')
  simp only[k1,Option.map_some,bE,G_] at e
  rw[ma]
  show lift _ ((run (TA q) (n+59+30)).ev _ _ _) _=_
  rw[e];rfl
 |cons x xs ih=>
  intro done B t s L G n hn v E j c c2 K
  obtain⟨n,rfl⟩:∃m,n=m+1:=⟨n-1,by rw[List.length_cons] at hn;omega⟩
  obtain⟨p,d,w,rfl,l1,l2,o,D,c⟩:=c
  have r:u.length=done.length+(xs.length+1):=by rw[v,List.length_append,List.length_cons]
  have hx:fK (some x)=some x:=hv x (by rw[v];simp)
  have et:=vY (q:=q) (n:=n+60) L G
  have k1:lk (z "at") L=some (.ref p):=E _ _ (by rfl')
  have k2:lk (z "things") L=some (.ref ta):=E _ _ (by rfl')
  simp only[k1,Option.map_some,bE,G9 o] at et
  have P:=FU (q:=q) (n:=n+59) L G
  have ai:cb (.str (z "car")) (pairD x w)=some x:=by rfl'
  have aj:cb (.str (z "cdr")) (pairD x w)=some w:=by rfl'
  have ah:cf (TA q) (.ref ta) 1 [x] G=some (.ok .none (G.set ta (.list (done++[x])))):=append_at j (by lia)
  simp only[k1,k2,Option.map_some,bE,ik j (m:=1) (a:=z "append") (by rfl') (.inl rfl),jz o km.1 D ai hx,ah,bK] at P
  have P:(run (TA q) (n+59+30)).ex (cy L) qW G=some (.ok .next L (G.set ta (.list (done++[x])))):=P
  generalize ae:G.set ta (.list (done++[x]))=A at P
  have o1:bN ta G A:=by rw[←ae];exact bN.set _ _ _
  have ab:A.get ta=some (.list (done++[x])):=by rw[←ae];exact Hp.eN (Hp.cj j)
  have kp:∀a,a≠ta->a<G.length->A.get a=G.get a:=λa o D=>o1.2 a D o
  have c':=c.keep j kp
  have N:=c2.keep j kp
  have hp:p≠ta:=λq=>by rw[q,j] at o;ext o
  have hd:d≠ta:=λq=>by rw[q,j] at D;ext D
  have af:A.get p=some (.inst 482 d):=by rw[kp p hp (Hp.cj o)];exact o
  have ag:A.get d=some (.dict (pairD x w)):=by rw[kp d hd (Hp.cj D)];exact D
  have e1:=FV (q:=q) (n:=n+58) L A
  simp only[k1,Option.map_some,bE,jz af km.2.1 ag aj c.wh,bK] at e1
  have f:=E.put (z "at") w
  generalize hP:put (z "at") w L=i at e1 f
  have W:(done++[x]).length=done.length+1:=by simp
  have F:=FW (q:=q) (n:=n+57) i A
  have k3:lk (z "things") i=some (.ref ta):=f _ _ (by rfl')
  have k4:lk (z "at") i=some w:=f _ _ (by rfl')
  have k5:lk (z "slow") i=some s:=f _ _ (by rfl')
  have hm:∀G,bin .Mod G (int (done.length+1)) (int 2) (TA q).bO=some (.ok (int ((done.length+1) % 2)) G):=λG=>Ha (by decide)
  have he:∀G,cmp (TA q) G .Eq (int ((done.length+1) % 2)) (int 0)=some (Nat.beq ((done.length+1) % 2) 0):=λG=>md
  simp only[k3,Option.map_some,bE,il (T:=TA q) ab (show(done++[x]).length<4096 by lia),W,hm,he,bK,di,dw] at F
  have R:∀(b:List (Str×V)) (l:V) (k:List V),(run (TA q) (n+57+30)).ex (cy i) gR A=some (.ok .next b A)->bP b [(z "things",.ref ta),(z "at",w),(z "slow",l)]->Ch lo A l k->k.length+(done.length+1)/2=u.length->
   ∃C H,(run (TA q) (n+1+90)).cA (cy L) (eu eG) (cT eG) G=some (.ok .next C H)/\bP C [(z "things",.ref ta),(z "at",.old 374)]/\H.get ta=some (.list u)/\bN ta G H:=by
   intro b l k e3 g O aq
   obtain⟨C,H,e4,h4,t4,o4⟩:=ih (done++[x]) k w l b A n (by rw[List.length_cons] at hn;omega) (by rw[v,List.append_assoc];rfl) g ab c' O (by rw[W];exact aq)
   refine⟨C,H,?_,h4,t4,o1.trans o4⟩
   have S:(run (TA q) (n+90)).ax (cy L) (cT eG) G=some (.ok .next b A):=by
    rw[F0,bJ (n:=n+59+30) P,bJ (n:=n+58+30) e1,bJ (n:=n+57+30) e3];rfl
   rw[ma]
   show lift _ ((run (TA q) (n+60+30)).ev _ _ _) _=_
   rw[et]
   show dS ((run (TA q) (n+90)).ax (cy L) (cT eG) G) _=_
   rw[S]
   exact e4
  generalize S:Nat.beq ((done.length+1) % 2) 0=zz at F
  cases zz with
  |false=>
   have ao:(done.length+1) % 2≠0:=λh=>by rw[h] at S;ext S
   have F:(run (TA q) (n+57+30)).ex (cy i) gR A=some (.ok .next i A):=F.trans (by rfl')
   exact R i s B F (f.sub (List.forall_mem_cons.mpr ⟨by rfl',List.forall_mem_cons.mpr ⟨by rfl',List.forall_mem_singleton.mpr (by rfl')⟩⟩)) N (Hf K ao)
  |true=>
   have aa:=Nat.eq_of_beq_eq_true S
   cases B with
   |nil=>exact(Hi r K).elim
   |cons y B=>
    rw[List.length_cons] at K
    obtain⟨ps,ds,M,rfl,_,_,s1,s2,O⟩:=N
    have ak:cb (.str (z "cdr")) (pairD y M)=some M:=by rfl'
    have e5:=FX (q:=q) (n:=n+55) i A
    simp only[k5,Option.map_some,bE,jz s1 km.2.1 s2 ak O.wh,bK] at e5
    have g:=f.put (z "slow") M
    generalize put (z "slow") M i=b at e5 g
    have k6:lk (z "at") b=some w:=g _ _ (by rfl')
    have k7:lk (z "slow") b=some M:=g _ _ (by rfl')
    have e6:=FY (q:=q) (n:=n+54) b A
    simp only[k6,k7,Option.map_some,bE,Hb (q:=q) c' O (Hh r K aa),bK,di,dw] at e6
    have e6:(run (TA q) (n+54+30)).ex (cy b) l8 A=some (.ok .next b A):=e6.trans (by rfl')
    have e7:(run (TA q) (n+57+29)).ax (cy i) (dv gR) A=some (.ok .next b A):=by
     rw[FZ,bJ (n:=n+55+30) e5,bJ (n:=n+54+30) e6];rfl
    exact R b M B (F.trans e7) (g.sub (List.forall_mem_cons.mpr ⟨by rfl',List.forall_mem_cons.mpr ⟨by rfl',List.forall_mem_singleton.mpr (by rfl')⟩⟩)) O (Hg K aa)
theorem Hk(v:V)(G:Hp):(run (TA q) (n+40)).call 564 [v] G=callEnd ((run (TA q) (n+39)).ax (cy [(z "datum",v)]) [qT,qU,qV,eG,qX] G):=by rfl'
theorem Hl{w:Nat}{s:List V}{v:V}{G:Hp}(F:∀x∈s,fK (some x)=some x)(E:s.length<=20)(c:Ch w G v s)(O:130<=n):
 ∃a b H,(run (TA q) n).call 564 [v] G=some (.ok (.ref b) H)/\H.get b=some (.tup [.ref a,.old 374])/\H.get a=some (.list s)/\Gr G H/\G.length<=a:=by
 obtain⟨n,rfl⟩:∃k,n=k+130:=⟨n-130,by omega⟩
 have f:=FO (q:=q) (n:=n+98) [(z "datum",v)] G
 have y:bS ([]:List V).length=true:=rfl
 simp only[bE,y,if_true,bK] at f
 have h:=(bP.refl [(z "datum",v)]).put (z "things") (.ref G.length)
 generalize put (z "things") (.ref G.length) [(z "datum",v)]=d at f h
 have g:=FP (q:=q) (n:=n+97) d (G.push (.list []))
 have m:lk (z "datum") d=some v:=h _ _ (by rfl')
 simp only[m,Option.map_some,bK] at g
 have h:=h.put (z "at") v
 generalize put (z "at") v d=e at g h
 have i:=FQ (q:=q) (n:=n+96) e (G.push (.list []))
 have m:lk (z "datum") e=some v:=h _ _ (by rfl')
 simp only[m,Option.map_some,bK] at i
 have h:=h.put (z "slow") v
 generalize put (z "slow") v e=p at i h
 have r:=c.gr (Gr.push G (.list []))
 obtain⟨L,H,l,u,N,o⟩:=Hj (q:=q) (ta:=G.length) (lo:=w) F E s [] s v v p (G.push (.list [])) (n+34) (by omega) rfl
  (h.sub (List.forall_mem_cons.mpr ⟨by rfl',List.forall_mem_cons.mpr ⟨by rfl',List.forall_mem_singleton.mpr (by rfl')⟩⟩)) (Hp.cB _ _) r r rfl
 have l:=(FT (q:=q) (n:=n+95) p (G.push (.list []))).trans l
 have t:=F3 (q:=q) (n:=n+94) L H
 have K:lk (z "things") L=some (.ref G.length):=u _ _ (by rfl')
 have M:lk (z "at") L=some (.old 374):=u _ _ (by rfl')
 have C:(bS [V.ref G.length,.old 374].length&&!([V.ref G.length,.old 374]).isEmpty)=true:=rfl
 simp only[K,M,Option.map_some,bE,C,if_true,bK] at t
 refine⟨G.length,H.length,H.push (.tup [.ref G.length,.old 374]),?_,Hp.cB _ _,Hp.mE N,⟨?_,λj D=>?_⟩,Nat.le_refl _⟩
 ·rw[Hk (n:=n+90)]
  have B:(run (TA q) (n+98+31)).ax (cy [(z "datum",v)]) [qT,qU,qV,eG,qX] G=some (.ok (.ret (.ref H.length)) L (H.push (.tup [.ref G.length,.old 374]))):=by
   rw[bJ f,bJ (n:=n+97+30) g,bJ (n:=n+96+30) i,bJ (n:=n+95+30) l,gP (n:=n+94+30) t]
  exact(congrArg callEnd B).trans rfl
 ·have:=o.1
  rw[Hp.length_push] at this⊢;lia
 ·have:=o.1
  rw[Hp.length_push] at this
  rw[Hp.eT (by lia),o.2 j (by rw[Hp.length_push];omega) (by omega),Hp.eT D]
theorem Hm(v:V)(a b:V)(G:Hp):(run (TA q) (n+40)).call 1213 [v,a,b] G=callEnd ((run (TA q) (n+39)).ax (eW [(z "form",v),(z "least",a),(z "most",b)]) [qY,qZ,kh,q_] G):=by rfl'
theorem Hn(L:List (Str×V))(a b:V)(G:Hp):dz (cV ([z "things",z "tail"].zip [a,b]) (eW L) G)=some (.ok .next (put (z "tail") b (put (z "things") a L)) G):=by rfl'
theorem Ho{S:Nat}{x:V}{s:List V}{v:V}{G:Hp}(D:∀y∈x::s,fK (some y)=some y)(W:s.length<=10)(c:Ch S G v (x::s))(hn:200<=n):
 ∃a H,(run (TA q) n).call 1213 [v,int 0,.int (-1)] G=some (.ok (.ref a) H)/\H.get a=some (.list s)/\Gr G H/\G.length<=a:=by
 obtain⟨n,rfl⟩:∃k,n=k+160+40:=⟨n-200,by omega⟩
 obtain⟨a,b,A,e,C,r,g,hl⟩:=Hl (q:=q) (n:=n+168+27) D (by rw[List.length_cons];omega) c (by lia)
 generalize f:[(z "form",v),(z "least",int 0),(z "most",V.int (-1))]=d
 have h:bP d [(z "form",v),(z "least",int 0),(z "most",V.int (-1))]:=by rw[f];exact bP.refl _
 have i:=F4 (q:=q) (n:=n+168) d G
 have E:lk (z "form") d=some v:=h _ _ (by rfl')
 simp only[E,Option.map_some,bE,e,bK] at i
 rw[ou C rfl,Hn] at i
 have h:=(h.put (z "things") (.ref a)).put (z "tail") (.old 374)
 generalize put (z "tail") (.old 374) (put (z "things") (.ref a) d)=l at i h
 have m:=F5 (q:=q) (n:=n+167) l A
 have F:lk (z "things") l=some (.ref a):=h _ _ (by rfl')
 have o:bin .Sub A (int (x::s).length) (int 1) (TA q).bO=some (.ok (int s.length) A):=by
  show some (R.ok (V.int (Int.ofNat (s.length+1)-.ofNat 1)) A)=_
  have:Int.ofNat (s.length+1)-.ofNat 1=.ofNat s.length:=by simp only[Int.ofNat_eq_natCast];lia
  rw[this];rfl
 simp only[F,Option.map_some,bE,il (T:=TA q) r (show(x::s).length<4096 by rw[List.length_cons];lia),o,bK] at m
 have h:=h.put (z "many") (int s.length)
 generalize put (z "many") (int s.length) l=L at m h
 have j:=F6 (q:=q) (n:=n+166) L A
 have K:lk (z "things") L=some (.ref a):=h _ _ (by rfl')
 have M:lk (z "tail") L=some (.old 374):=h _ _ (by rfl')
 have N:lk (z "many") L=some (int s.length):=h _ _ (by rfl')
 have O:lk (z "least") L=some (int 0):=h _ _ (by rfl')
 have P:lk (z "most") L=some (.int (-1)):=h _ _ (by rfl')
 have t:cmp (TA q) A .IsNot (.old 374) (.old 374)=some false:=by rfl'
 have u:cmp (TA q) A .Lt (int s.length) (int 0)=some false:=by
  show some (!Nat.ble 0 s.length)=_
  rw[Nat.ble_eq_true_of_le (Nat.zero_le _)];rfl
 have w:cmp (TA q) A .GtE (.int (-1)) (int 0)=some false:=by rfl'
 simp only[M,N,O,P,Option.map_some,bE,t,u,w,di,dw,cond_false,bK] at j
 have j:(run (TA q) (n+166+30)).ex (eW L) kh A=some (.ok .next L A):=j.trans (by rfl')
 have p:=F7 (q:=q) (n:=n+165) L A
 have o:gZ (.ref a) 1 A=some (.ok (.ref A.length) (A.push (.list s))):=by
  unfold gZ
  simp only[r]
  rw[if_pos (by rw[eF (by rw[List.length_cons];lia)];rfl)]
  rfl
 simp only[K,Option.map_some,bE,o,bK] at p
 refine⟨A.length,A.push (.list s),?_,Hp.cB _ _,g.trans (Gr.push _ _),g.1⟩
 rw[Hm (n:=n+160),f]
 have B:(run (TA q) (n+168+31)).ax (eW d) [qY,qZ,kh,q_] G=some (.ok (.ret (.ref A.length)) L (A.push (.list s))):=by
  rw[bJ i,bJ (n:=n+167+30) m,bJ (n:=n+166+30) j,gP (n:=n+165+30) p]
 exact(congrArg callEnd B).trans rfl
structure Kp(m:Nat)(al:Nat->Nat)(U:Hp)(al2:Nat->Nat)(τ1:Hp):Prop where
 le:U.length<=τ1.length
 fr:∀j,j<m->j≠al 10->j≠al 99->j≠al 100->τ1.get j=U.get j
 keep:∀i,i<N->(i<57\/97<=i)->al2 i=al i
 new:∀i,i<N->al2 i<m->al2 i=al i
theorem Kp.refl(m al U):Kp m al U al U:=⟨Nat.le_refl _,λa b c d e=>rfl,λa b c=>rfl,λa b c=>rfl⟩
theorem Kp.weak{m d al U a b}(h:Kp d al U a b)(c:m<=d):Kp m al U a b:=⟨h.le,λj g=>h.fr j (Nat.lt_of_lt_of_le g c),h.keep,λi f e=>h.new i f (Nat.lt_of_lt_of_le e c)⟩
theorem Kp.trans{m al U l f c g}(a:Kp m al U l f)(b:Kp m l f c g):Kp m al U c g:=by
 refine⟨Nat.le_trans a.le b.le,λj p k n o=>?_,λi d h=>by rw[b.keep i d h,a.keep i d h],λi d h=>?_⟩
 ·rw[b.fr j p (by rw[a.keep 10 (by decide) (.inl (by decide))];exact k) (by rw[a.keep 99 (by decide) (.inr (by decide))];exact n) (by rw[a.keep 100 (by decide) (.inr (by decide))];exact o),a.fr j p k n o]
 ·have e:=b.new i d h
  rw[e] at h⊢;exact a.new i d h
theorem Fr.kp{al U a}(h:Fr [] al U a):Kp U.length al U al a:=⟨h.1,λj b c d e=>h.nil j b,λc d e=>rfl,λc d e=>rfl⟩
noncomputable def Fx(m:Nat)(al:Nat->Nat)(U a:Hp):Prop:=U.length<=a.length/\∀j,j<m->j≠al 10->j≠al 99->j≠al 100->a.get j=U.get j
theorem Fr.fx{al U a}(h:Fr [10,99,100] al U a):Fx U.length al U a:=⟨h.1,λj f c d e=>h.2 j f λi b=>by
 simp only[List.mem_cons,List.not_mem_nil,or_false] at b
 rcases b with rfl|rfl|rfl
 ·exact Ne.symm c
 ·exact Ne.symm d
 ·exact Ne.symm e⟩
theorem Fr.Hq{al U a}(h:Fr [10] al U a):Fx U.length al U a:=⟨h.1,λj d b e f=>h.2 j d λi c=>by rw[List.mem_singleton.mp c];exact Ne.symm b⟩
theorem Fr.Hr{al U a}(h:Fr [99,100] al U a):Fx U.length al U a:=⟨h.1,λj e f c d=>h.2 j e λi b=>by
 simp only[List.mem_cons,List.not_mem_nil,or_false] at b
 rcases b with rfl|rfl
 ·exact Ne.symm c
 ·exact Ne.symm d⟩
theorem Kp.fx{m i al U l c d}(a:Kp m al U l c)(b:Fx i l c d)(k:m<=i):Fx m al U d:=⟨Nat.le_trans a.le b.1,λj g h e f=>by
 rw[b.2 j (Nat.lt_of_lt_of_le g k) (by rw[a.keep 10 (by decide) (.inl (by decide))];exact h) (by rw[a.keep 99 (by decide) (.inr (by decide))];exact e) (by rw[a.keep 100 (by decide) (.inr (by decide))];exact f),a.fr j g h e f]⟩
theorem Go.kp{al U M2 B a ys b j}(g:Go al U M2 B a ys b [10] (j7 j))(e:j<6):Kp U.length al U a b:=by
 refine⟨g.le,λk f d l n=>g.fr k f λi c=>by rw[List.mem_singleton.mp c];exact Ne.symm d,λi c h=>g.kept i c λm=>?_,g.new⟩
 have:=iN j e
 unfold j7 at m
 simp only[List.mem_cons,List.not_mem_nil,or_false] at m
 lia
variable{t:Nat}{K al xs:Nat->Nat}{U:Hp}{p:Nat}
theorem Hs(x:150<=n)(y:p<36)(W:Wd t K true al U)(b:bR ((D p).fb N) al xs U)(o:b9 p=false):
 ∃v a l,(run (TA q) n).call 1792 ([.ref 98,(D p).fv N,.ref 1].map (V.mp (cat al xs))) U=some (.ok v a)/\Wd t (dG K (cu p) (er (K (cu p)))) true l a/\St t al U l a/\Kp U.length al U l a:=by
 have h:=iP (p:=p) (by lia)
 have k:=W.kind h
 have c:=vh y _ k
 unfold nU at c
 simp only[o,cond_false,Bool.and_eq_true] at c
 obtain⟨w,c⟩:=c
 have z:21<=t:=by rcases W.ts with e|e|e<;>omega
 obtain⟨j,m⟩:=W.ek (vis:=j8 (cu p)) (.inl rfl) z (.inr (List.all_eq_true.mp vi _ (List.mem_range.mpr h))) (.inr ⟨h,rfl⟩)
 obtain⟨v,a,l,ys,B,g,C⟩:=go j b (dg _ _ _ _ _ _) m (dg _ _ _ _ _ _) (by decide) (λf r u=>eE x w f r u) c
 have S:=List.all_eq_true.mp (List.all_eq_true.mp (all2 (List.all_eq_true.mp D1 t (three W.ts)) (!Nat.beq (K 3) 0)) _ (List.mem_range.mpr h)) _ k
 rw[DV] at S
 obtain⟨d,s⟩:=W.step (K':=dG K (cu p) (er (K (cu p)))) g S
  (λi C e=>if_neg e) (λC=>⟨if_pos rfl,D2 k⟩) (D3 k) W.ts
 exact⟨v,a,l,B,d,s,g.kp h⟩
theorem Ht(C:150<=n)(w:36<=p)(E:p<72)(W:Wd t K true al U)(F:cX p<=t)(b:bR ((D p).fb N) al xs U)(x:b9 p=false):
 ∃a l,(run (TA q) n).call 1799 ([(D p).fv N,.ref 1].map (V.mp (cat al xs))) U=some (.ok .none a)/\Wd t (dG K (cu p) 773) true l a/\St t al U l a/\Kp U.length al U l a:=by
 have d:=iP (p:=p) (by omega)
 have c:=vj w E (!Nat.beq (K 3) 0)
 unfold nW at c
 simp only[x,cond_false,Bool.and_eq_true] at c
 obtain⟨B,h,c⟩:=c
 have h:=Nat.eq_of_beq_eq_true h
 have k:t=23:=by rcases W.ts with e|e|e<;>omega
 obtain⟨o,u⟩:=W.ek (vis:=j9 (cu p)) (qH p) F (.inr (List.all_eq_true.mp vk _ (List.mem_range.mpr d))) (j:=cu p) (.inl rfl)
 obtain⟨v,a,l,ys,y,g,L⟩:=go o b (dg _ _ _ _ _ _) u (dg _ _ _ _ _ _) (by decide) (λf r z=>eE (q:=q) C B f r z) c
 rw[L _ rfl] at y
 rw[h] at g
 subst k
 obtain⟨m,s⟩:=W.step (K':=dG K (cu p) 773) g (List.all_eq_true.mp (all2 D9 _) _ (List.mem_range.mpr d))
  (λi M e=>if_neg e) (λM=>⟨if_pos rfl,.inr (.inr (.inl rfl))⟩) D_ W.ts
 exact⟨a,l,y,m,s,g.kp d⟩
end
def oO:List Nat:=[0,1,8,9,10,97,98,99,100]++(iM [0,4,20]++nJ [0,4])
def exp2(x:Option (R V))(k:Hp->Option (R V)):Option (R V):=bd x λu G=>if noRef u then k G else none
def cExp(o:Bool)(p:Nat):Bool:=
 let E:=Ek 21 o true oO 6 0++(D p).fb N
 let a:=[.ref 98,(D p).fv N,.ref 9,.str (z "")]
 let x:=exp2 (RR.call 1698 a (cJ E)) (λG=>RR.call 1733 [.ref 98] G)
 gu E a&&(eB E (lT E) E.length [99] [] nT none (RR.call 1698 a (cJ E))&&bif b9 p then j3 E [99,100] x else eB E (lT E) E.length [] [] nT none x)
def Hu:Bool:=[72,73,74,75,76,77].all λp=>[false,true].all λo=>cExp o p
theorem Hv:Hu=true:=by decide+kernel
theorem Hw:iO oO=true:=by decide+kernel
theorem rD{M B al xs U ms x}{y:Option (R V)}(o:Im M al U)(b:bR B al xs U)(e:M.length=N)(g:dF N M=true)(m:ms.all (bT N)=true)
 (q:∀f,Rel f U.get (cJ (M++B)) U->(∀i,i<(M++B).length->f i=cat al xs i)->RO f U.get (V.mp f) x y)
 (c:eB (M++B) (lT (M++B)) (M++B).length ms [] nT none x=true):∃v a,y=some (.ok v a)/\Fr ms al U a:=by
 obtain⟨v,a,l,n,r,p⟩:=j4 (o.merge b e g) q c
 refine⟨v,a,n,r.le,λj k h=>r.fr j k λi d=>?_⟩
 rw[b8 (dE (List.all_eq_true.mp m i d))];exact h i d
section
variable{q:Option (Nat×List V)}{n t:Nat}{K:Nat->Nat}{al xs:Nat->Nat}{U:Hp}{p:Nat}
theorem oP{m:Nat}(e:150<=n)(d:150<=m){s:List V}{E:Nat}{g}(c:s.all (V.al (bT E))=true)(h:98<E)(f:Nat->Nat){G}(r:Rel f g G U)(b:∀i,i<E->f i=al i):
 RO f g (V.mp f) (exp2 (RR.call 1698 s G) (λG=>RR.call 1733 [.ref 98] G)) (exp2 ((run (TA q) n).call 1698 (s.map (V.mp al)) U) λG=>(run (TA q) m).call 1733 [.ref (al 98)] G):=by
 refine RO.bd (eE e c f r b) λu G U r=>?_
 rw[uH]
 refine RO.ite ?_
 have:=eE (q:=q) (al:=al) (as:=[.ref 98]) (a:=1733) d (by rw[List.all_cons];show(bT E 98&&true)=true;rw[Bool.and_true];exact Nat.ble_eq_true_of_le h) f r b
 exact this
theorem wi{b:Option (R V)}{k:Hp->Option (R V)}{v:V}{a:Hp}(h:exp2 b k=some (.ok v a)):∃u A,b=some (.ok u A)/\noRef u=true/\k A=some (.ok v a):=by
 unfold exp2 at h
 cases b with
 |none=>ext h
 |some x=>cases x with
  |exc G=>ext h
  |ok u A=>
   rw[show bd (some (R.ok u A)) _=(if noRef u then k A else none) from rfl] at h
   cases e:noRef u with
   |false=>rw[e,if_neg (by decide)] at h;ext h
   |true=>rw[e,if_pos rfl] at h;exact⟨u,A,rfl,e,h⟩
theorem wj{c:Option (R V)}{k:Hp->Option (R V)}{u:V}{A a:Hp}(b:c=some (.ok u A))(h:exp2 c k=some (.exc a)):noRef u=true/\k A=some (.exc a):=by
 unfold exp2 at h
 rw[b,show bd (some (R.ok u A)) _=(if noRef u then k A else none) from rfl] at h
 cases e:noRef u with
 |false=>rw[e,if_neg (by decide)] at h;ext h
 |true=>rw[e,if_pos rfl] at h;exact⟨rfl,h⟩
theorem Hx{m:Nat}(x:150<=n)(i:150<=m)(h0:72<=p)(hp:p<78)(W:Wd t K true al U)(b:bR ((D p).fb N) al xs U):
 ∃u A,(run (TA q) n).call 1698 ([.ref 98,(D p).fv N,.ref 9,.str (z "")].map (V.mp (cat al xs))) U=some (.ok u A)/\noRef u=true/\Fr [99] al U A/\
  (b9 p=false->∃v a,(run (TA q) m).call 1733 [.ref (al 98)] A=some (.ok v a)/\Fr [] al U a)/\
  (b9 p=true->∃a,(run (TA q) m).call 1733 [.ref (al 98)] A=some (.exc a)/\Fr [99,100] al U a):=by
 have C:cExp (!Nat.beq (K 3) 0) p=true:=by
  have i:p∈[72,73,74,75,76,77]:=by
   simp only[List.mem_cons,List.not_mem_nil,or_false];lia
  exact all2 (List.all_eq_true.mp Hv p i) _
 unfold cExp at C
 simp only[Bool.and_eq_true] at C
 obtain⟨w,R,d⟩:=C
 have T:21<=t:=by rcases W.ts with e|e|e<;>omega
 obtain⟨k,l⟩:=W.ek (vis:=oO) (.inl rfl) T (.inr Hw) (j:=6) (.inl rfl)
 have E:98<(Ek 21 (!Nat.beq (K 3) 0) true oO 6 0++(D p).fb N).length:=by rw[List.length_append,dg];unfold N;lia
 have s:cat al xs 98=al 98:=b8 (by decide)
 obtain⟨u,A,y,S⟩:=rD k b (dg _ _ _ _ _ _) l (by decide) (λf r c=>eE (q:=q) x w f r c) R
 refine⟨u,A,y,?_,S,λg=>?_,λg=>?_⟩
 ·cases g:b9 p with
  |false=>
   rw[g,cond_false] at d
   obtain⟨v,a,h,F⟩:=rD k b (dg _ _ _ _ _ _) l (by decide) (λf r c=>oP (q:=q) (m:=m) x i w E f r c) d
   obtain⟨u',B,o,P,O⟩:=wi h
   rw[y] at o;ext o;exact P
  |true=>
   rw[g,cond_true] at d
   obtain⟨a,h,F⟩:=nO k b (dg _ _ _ _ _ _) l (by decide) (λf r c=>oP (q:=q) (m:=m) x i w E f r c) d
   exact(wj y h).1
 ·rw[g,cond_false] at d
  obtain⟨v,a,h,F⟩:=rD k b (dg _ _ _ _ _ _) l (by decide) (λf r c=>oP (q:=q) (m:=m) x i w E f r c) d
  obtain⟨u',B,o,P,O⟩:=wi h
  rw[y] at o;ext o
  rw[s] at O
  exact⟨v,a,O,F⟩
 ·rw[g,cond_true] at d
  obtain⟨a,h,L,M⟩:=nO k b (dg _ _ _ _ _ _) l (by decide) (λf r c=>oP (q:=q) (m:=m) x i w E f r c) d
  have:=(wj y h).2
  rw[s] at this
  exact⟨a,this,L,M⟩
variable{w:Bool}
theorem Wd.at(W:Wd t K w al U){i:Nat}{o:O}(h:∀a,(Ew t a w)[i]? =some (some o)):U.get (al i)=some (o.mp al):=W.im.has i o (h _)
theorem Wd.lt(W:Wd t K w al U){i:Nat}(h:i<N):al i<U.length:=W.im.lt i (by rwa [cS])
theorem Wd.inj(W:Wd t K w al U){i j:Nat}(a:i<N)(b:j<N)(h:al i=al j):i=j:=W.im.inj i j (by rwa [cS]) (by rwa [cS]) h
theorem Wd.root(W:Wd t K w al U):dq (TA q) U (.ref (al 1)) (z "root")=some (.ref (al 9)):=
 jz (W.at (i:=1) λa=>rfl) (by rfl') (W.at (i:=0) λa=>rfl) (by rfl') rfl
theorem Wd.table(W:Wd t K w al U):dq (TA q) U (.ref (al 1)) (z "table")=some (.ref (al 3)):=
 jz (W.at (i:=1) λa=>rfl) (by rfl') (W.at (i:=0) λa=>rfl) (by rfl') rfl
theorem Wd.names(W:Wd t K w al U):dq (TA q) U (.ref (al 9)) (z "names")=some (.ref (al 10)):=
 jz (W.at (i:=9) λa=>rfl) (by rfl') (W.at (i:=8) λa=>rfl) (by rfl') rfl
theorem rE(t:Nat)(o:Bool):(Ew t o true)[97]? =some (some (.dict [(.str (z "world"),.ref 1),(.str (z "jobs"),.ref 99),(.str (z "nodes"),.ref 100),(.str (z "uses"),.int 0),(.str (z "written"),.int 0)]))/\(Ew t o true)[98]? =some (some (.inst 1781 97)):=by
 have a:∀l:List (Nat×Str),(l.flatMap (lO t)).length=2*l.length:=by
  intro l
  induction l with
  |nil=>rfl
  |cons p l i=>rw[List.flatMap_cons,List.length_append,i,List.length_cons];unfold lO;cases bT t p.1<;>simp only[cond_true,cond_false,List.length_cons,List.length_nil]<;>lia
 unfold Ew
 have k:kw.length=23:=rfl
 have h:(vb t o).length=11:=rfl
 have d:((kw.take 20).flatMap u_).length=40:=rfl
 constructor
 ·rw[List.getElem?_append_right (by rw[h];lia),List.getElem?_append_right (by rw[a,h,k];lia),List.getElem?_append_right (by rw[a,h,k,d];lia),a,h,k,d];rfl
 ·rw[List.getElem?_append_right (by rw[h];lia),List.getElem?_append_right (by rw[a,h,k];lia),List.getElem?_append_right (by rw[a,h,k,d];lia),a,h,k,d];rfl
theorem Wd.walk(W:Wd t K true al U):U.get (al 98)=some (.inst 1781 (al 97)):=W.at (i:=98) λo=>(rE t o).2
theorem kr{C d f:Nat}{a:Str}{G:Hp}{es:List (V×V)}{T:Tb}{k:Cl}(h:G.get d=some (.dict es))(b:T.cls C=some k)(m:lk a k.meths=some f)(n:cb (.str a) es=none):dZ T C d a G=some f:=by
 unfold dZ
 simp only[h,b,m,n]
theorem wk:∃k,Tt.tb.cls 1781=some k/\lk (z "opened") k.meths=some 1752/\lk (z "expand") k.meths=some 1698/\lk (z "run") k.meths=some 1733:=⟨_,rfl,by rfl',by rfl',by rfl'⟩
theorem Wd.fm(W:Wd t K true al U):dZ (TA q) 1781 (al 97) (z "opened") U=some 1752/\dZ (TA q) 1781 (al 97) (z "expand") U=some 1698/\dZ (TA q) 1781 (al 97) (z "run") U=some 1733:=by
 obtain⟨k,h,a,b,c⟩:=wk
 have d:=W.at (i:=97) λo=>(rE t o).1
 exact⟨kr d h a (by rfl'),kr d h b (by rfl'),kr d h c (by rfl')⟩
def eI(p:Nat):V:=bif bT 36 p then .str (z "define") else bif bT 72 p then .str (z "define-syntax") else bif Nat.beq p 72||Nat.beq p 75 then .str (z "quote") else .none
def hh(p:Nat):Nat:=bif bT 36 p then 5 else bif bT 72 p then 6 else 0
def Hy(p:Nat):Bool:=((D p).fv N).al λi=>bT 57 i||Nat.ble N i
noncomputable def wm(B:List (Option O)):Bool:=B.all λo=>match o with
 |some (.inst a b)=>true
 |some (.dict a)=>true
 |_=>false
def vq(l:List V)(v:V):Bool:=l.any (cM v)
def iW(p:Nat):Bool:=Hy p&&(wm ((D p).fb N)&&(j5 (cX p) ((D p).fb N)&&(bif Nat.beq p 73||(Nat.beq p 74||(Nat.beq p 76||Nat.beq p 77)) then vq atoms ((D p).fv N)&&cM (eI p) .none else dP (j_ (hh p)) ((D p).fb N)&&(cM ((D p).fv N) (.ref (N+1))&&cM (eI p) (.str (nm (hh p)))))))
theorem Hz:(List.range 78).all iW=true:=by decide+kernel
theorem kt(h:p<78):iW p=true:=List.all_eq_true.mp Hz p (List.mem_range.mpr h)
theorem rF{t b:Nat}{B:List (Option O)}(h:t<=b)(q:j5 t B=true):j5 b B=true:=by
 refine List.all_eq_true.mpr λo g=>?_
 have:=List.all_eq_true.mp q o g
 cases o with
 |none=>rfl
 |some o=>
  have m:∀v:V,v.al (λi=>eD t i||Nat.ble N i)=true->v.al (λi=>eD b i||Nat.ble N i)=true:=λv a=>by
   cases v<;>try rfl
   have a:(eD t _||Nat.ble N _)=true:=a
   show(eD b _||Nat.ble N _)=true
   rw[Bool.or_eq_true] at a⊢
   exact a.imp (qC h) id
  have Vs:∀l:List V,l.all (V.al λi=>eD t i||Nat.ble N i)=true->l.all (V.al λi=>eD b i||Nat.ble N i)=true:=λl f=>List.all_eq_true.mpr λv a=>m v (List.all_eq_true.mp f v a)
  cases o with
  |inst C d=>
   exact m (.ref d) this
  |list l=>exact Vs l this
  |tup l=>exact Vs l this
  |dict s=>
   refine List.all_eq_true.mpr λe c=>?_
   have:=List.all_eq_true.mp this e c
   rw[Bool.and_eq_true] at this⊢
   exact⟨m _ this.1,m _ this.2⟩
  |cell v=>cases v with
   |none=>rfl
   |some v=>exact m v this
theorem bR.ne{B:List (Option O)}{a:Nat}{l:List V}(b:bR B al xs U)(h:wm B=true)(g:U.get a=some (.list l)):∀i,i<B.length->xs i≠a:=λi f e=>by
 have c:=List.all_eq_true.mp h _ (List.getElem_mem f)
 have d:=List.getElem?_eq_getElem f
 cases o:B[i] with
 |none=>rw[o] at c;ext c
 |some x=>
  rw[o] at c d
  have:=b.has i x d
  rw[e,g] at this
  cases x<;>first|(specialize c;done)|(have:=Option.some.inj this;simp only[O.mp,reduceCtorEq] at this)
noncomputable def Bt(t:Nat)(al:Nat->Nat)(U:Hp)(a:Nat->Nat)(b:Hp):Prop:=∀p xs,p<78->cX p<=t->bR ((D p).fb N) al xs U->bR ((D p).fb N) a xs b
theorem Bt.refl(t al U):Bt t al U al U:=λa c d e b=>b
theorem Bt.trans{t al U l d c e}(a:Bt t al U l d)(b:Bt t l d c e):Bt t al U c e:=λp xs f h k=>b p xs f h (a p xs f h k)
theorem St.bt{t al U a c}(s:St t al U a c)(e:t<=23):Bt t al U a c:=λp xs d h b=>by
 have:=kt d
 unfold iW at this
 simp only[Bool.and_eq_true] at this
 exact b.st s e (rF h this.2.2.1)
theorem bN.bt{t a l c}(o:bN a U c)(h:U.get a=some (.list l)):Bt t al U al c:=λp xs d n b=>by
 have:=kt d
 unfold iW at this
 simp only[Bool.and_eq_true] at this
 exact b.only o (b.ne this.2.1 h)
theorem HA{m a c}(d:p<78)(k:Kp m al U a c):((D p).fv N).mp (cat a xs)=((D p).fv N).mp (cat al xs):=by
 have:=kt d
 unfold iW at this
 simp only[Bool.and_eq_true] at this
 refine V.dM (λi h=>?_) this.1
 rw[Bool.or_eq_true] at h
 by_cases b:i<N
 ·rw[b8 b,b8 b]
  rcases h with h|h
  ·exact k.keep i b (.inl (dE h))
  ·have:=Nat.le_of_ble_eq_true h;lia
 ·rw[dm (by omega),dm (by omega)]
theorem bN.kp{m a b}(o:bN a U b)(h:m<=a)(d:m<=U.length):Kp m al U al b:=⟨o.1,λj c e f g=>o.2 j (Nat.lt_of_lt_of_le c d) (by lia),λe f g=>rfl,λe f g=>rfl⟩
theorem wo(l:150<=n)(s:p<78)(W:Wd t K true al U)(b:bR ((D p).fb N) al xs U):
 (∃a,(run (TA q) n).call 1752 [.ref (al 98),((D p).fv N).mp (cat al xs),.ref (al 9)] U=some (.ok (((D p).fv N).mp (cat al xs)) a)/\Fr [] al U a)/\
 (∃a,(run (TA q) n).call 1677 [((D p).fv N).mp (cat al xs),.ref (al 9)] U=some (.ok (eI p) a)/\Fr [] al U a):=by
 have c:=kt s
 unfold iW at c
 simp only[Bool.and_eq_true] at c
 obtain⟨u,w,x,c⟩:=c
 cases k:Nat.beq p 73||(Nat.beq p 74||(Nat.beq p 76||Nat.beq p 77)) with
 |true=>
  rw[k,cond_true,Bool.and_eq_true] at c
  obtain⟨d,f⟩:=c
  obtain⟨v,i,e⟩:=List.any_eq_true.mp d
  have e:=ef.mp e
  have m:((D p).fv N).mp (cat al xs)=v.mp al:=by
   rw[e]
   simp only[atoms,List.mem_cons,List.not_mem_nil,or_false] at i
   rcases i with rfl|rfl|rfl|rfl<;>first|rfl|(show V.ref (cat al xs _)=_;rw[b8 (by decide)];rfl)
  rw[m,ef.mp f]
  exact EE l W i
 |false=>
  rw[k,cond_false] at c
  simp only[Bool.and_eq_true] at c
  obtain⟨d,f,o⟩:=c
  have m:hh p∈[0,4,5,6]:=by
   unfold hh
   cases bT 36 p<;>cases bT 72 p<;>decide
  have h:=qK (q:=q) l W m (b.le d)
  have g:cat al xs 98=al 98:=b8 (by decide)
  have r:cat al xs 9=al 9:=b8 (by decide)
  have j:cat al xs (N+1)=xs 1:=by rw[dm (by lia),Nat.add_sub_cancel_left]
  unfold lV lW at h
  simp only[List.map_cons,List.map_nil,cC,g,r,j] at h
  rw[ef.mp f,ef.mp o,cC,j]
  exact h
end
section
variable{T:Tb}{n:Nat}{Y:En}{s:Stmt}{G:Hp}
theorem fX:(run T (n+2)).ax Y [s] G=(run T (n+1)).ex Y s G:=by
 cases h:(run T (n+1)).ex Y s G with
 |none=>
  refine(?_:hG ((run T (n+1)).ex Y s G) _=_)
  rw[h];rfl
 |some r=>cases r with
  |ok f Q A=>cases f with
   |next=>rw[bJ h];rfl
   |_=>
    refine(?_:hG ((run T (n+1)).ex Y s G) _=_)
    rw[h];rfl
  |exc Q A=>exact n_ h
end
section
variable{q:Option (Nat×List V)}{n:Nat}{L:List (Str×V)}{G:Hp}
theorem HB(h:lk (z "word") L=some (.str (z "begin"))):(run (TA q) (n+88)).ex (bH L) eU G=(run (TA q) (n+86)).ex (bH L) qP G:=by
 have e:=vT (q:=q) (n:=n+58) L G
 have c:cmp (TA q) G .Eq (.str (z "begin")) (.str (z "begin"))=some true:=by rfl'
 simp only[h,Option.map_some,bE,c,bK,di,dw,cond_true,Fi] at e
 exact e.trans fX
theorem wq(v:V)(a:cmp (TA q) G .Eq v (.str (z "begin"))=some false)(h:lk (z "word") L=some v):(run (TA q) (n+88)).ex (bH L) eU G=(run (TA q) (n+86)).ex (bH L) ig G:=by
 have e:=vT (q:=q) (n:=n+58) L G
 simp only[h,Option.map_some,bE,a,bK,di,dw,cond_false,Fy] at e
 exact e.trans fX
theorem HC(h:lk (z "word") L=some (.str (z "define"))):(run (TA q) (n+88)).ex (bH L) eU G=(run (TA q) (n+84)).ex (bH L) lX G:=by
 refine(wq (.str (z "define")) (by rfl') h).trans ?_
 have e:=vU (q:=q) (n:=n+56) L G
 have c:cmp (TA q) G .Eq (.str (z "define")) (.str (z "define"))=some true:=by rfl'
 simp only[h,Option.map_some,bE,c,bK,di,dw,cond_true,Fo] at e
 exact e.trans fX
theorem wt(v:V)(b:cmp (TA q) G .Eq v (.str (z "begin"))=some false)(a:cmp (TA q) G .Eq v (.str (z "define"))=some false)(h:lk (z "word") L=some v):(run (TA q) (n+88)).ex (bH L) eU G=(run (TA q) (n+84)).ex (bH L) gQ G:=by
 refine(wq v b h).trans ?_
 have e:=vU (q:=q) (n:=n+56) L G
 simp only[h,Option.map_some,bE,a,bK,di,dw,cond_false,Fw] at e
 exact e.trans fX
theorem HD(h:lk (z "word") L=some (.str (z "define-syntax"))):(run (TA q) (n+88)).ex (bH L) eU G=(run (TA q) (n+82)).ex (bH L) lY G:=by
 refine(wt (.str (z "define-syntax")) (by rfl') (by rfl') h).trans ?_
 have e:=vV (q:=q) (n:=n+54) L G
 have c:cmp (TA q) G .Eq (.str (z "define-syntax")) (.str (z "define-syntax"))=some true:=by rfl'
 simp only[h,Option.map_some,bE,c,bK,di,dw,cond_true,Fq] at e
 exact e.trans fX
theorem HE(v:V)(c:cmp (TA q) G .Eq v (.str (z "begin"))=some false)(a:cmp (TA q) G .Eq v (.str (z "define"))=some false)(b:cmp (TA q) G .Eq v (.str (z "define-syntax"))=some false)(h:lk (z "word") L=some v):
 (run (TA q) (n+88)).ex (bH L) eU G=(run (TA q) (n+83)).ax (bH L) [lZ,l0] G:=by
 refine(wt v c a h).trans ?_
 have e:=vV (q:=q) (n:=n+54) L G
 simp only[h,Option.map_some,bE,b,bK,di,dw,cond_false,Fv] at e
 exact e
theorem Off.fr{al U b a}(o:Off al U a)(h:U.length<=b.length):Off al b a:=⟨Nat.lt_of_lt_of_le o.1 h,o.2⟩
theorem bP.dH{L l:List (Str×V)}(h:bP L l)(a:List (Str×V))(k:a.map (λp=>lk p.1 l)=a.map λp=>some p.2):bP L a:=h.sub (List.map_inj_left.mp k)
def fG(p:Nat)(K:Nat->Nat):Nat->Nat:=bif bT 36 p then dG K (cu p) (er (K (cu p))) else bif bT 72 p then dG K (cu p) 773 else K
def fg(p:Nat):Nat:=bif Nat.beq (cR p) 1 then 0 else 1
theorem fH{k i:Nat}(h:i<k):bT k i=true:=Nat.ble_eq_true_of_le h
theorem eJ{k i:Nat}(h:k<=i):bT k i=false:=by
 cases e:bT k i
 ·rfl
 ·have:=dE e;lia
def dI(al:Nat->Nat)(f w:Nat):List (Str×V):=[(z "world",.ref (al 1)),(z "found",.ref f),(z "waiting",.ref w),(z "walk",.ref (al 98))]
theorem wu{al f w L}(h:bP L (dI al f w))(v:V):bP (put (z "first") v L) (dI al f w++[(z "first",v)])/\bP (put (z "word") v L) (dI al f w):=by
 exact⟨(h.put (z "first") v).dH _ (by rfl'),(h.put (z "word") v).dH _ (by rfl')⟩
variable{t:Nat}{K al xs:Nat->Nat}{U:Hp}{p:Nat}
structure It(m t:Nat)(K':Nat->Nat)(fa wa:Nat)(ws:List V)(fl:Nat)(al:Nat->Nat)(U:Hp)(L2:List (Str×V))(al2:Nat->Nat)(τ2:Hp):Prop where
 has:bP L2 (dI al2 fa wa)
 W:Wd t K' true al2 τ2
 w:τ2.get wa=some (.list ws)
 f:∃fs,τ2.get fa=some (.list fs)/\fs.length=fl
 kp:Kp m al U al2 τ2
 of:Off al2 τ2 fa
 ow:Off al2 τ2 wa
 bt:Bt t al U al2 τ2
theorem wx{m al U a b f w}(k:Kp m al U a b):dI a f w=dI al f w:=by
 unfold dI
 rw[k.keep 1 (by decide) (.inl (by decide)),k.keep 98 (by decide) (.inr (by decide))]
theorem wy{a:V}{i j:Nat}(h:i<N)(b:j<N):[V.ref i,a,V.ref j].map (V.mp (cat al xs))=[.ref (al i),a.mp (cat al xs),.ref (al j)]:=by
 simp only[List.map_cons,List.map_nil,cC,b8 h,b8 b]
theorem HF(hn:200<=n)(W:Wd t K true al U){L f w g ws m}(i:bP L (dI al f w++[(z "first",((D p).fv N).mp (cat al xs))]))(of:Off al U f)(ow:Off al U w)(C:f≠w)
 (hw:U.get w=some (.list ws))(u:U.get f=some (.list g))(lf:g.length<=50)(b:bR ((D p).fb N) al xs U)(M:p<36)(hm:m<=f)(h:m<=U.length):
 (b9 p=false->∃d l,(run (TA q) (n+30)).ex (bH L) lX U=some (.ok .next L d)/\It m t (dG K (cu p) (er (K (cu p)))) f w ws (g.length+1) al U L l d)/\
 (b9 p=true->∃d,(run (TA q) (n+30)).ex (bH L) lX U=some (.exc L d)/\Fx m al U d):=by
 have e:=Fj (q:=q) (n:=n) L U
 have O:lk (z "found") L=some (.ref f):=i _ _ (by rfl')
 have P:lk (z "walk") L=some (.ref (al 98)):=i _ _ (by rfl')
 have R:lk (z "first") L=some (((D p).fv N).mp (cat al xs)):=i _ _ (by rfl')
 have S:lk (z "world") L=some (.ref (al 1)):=i _ _ (by rfl')
 have v:bP L (dI al f w):=i.dH _ (by rfl')
 constructor
 ·intro B
  obtain⟨r,c,l,y,T,s,k⟩:=Hs (q:=q) (n:=n+25) (by omega) M W b B
  rw[wy (by decide) (by decide)] at y
  obtain⟨o,F⟩:=s.off of
  obtain⟨E,g2⟩:=s.off ow
  have x:cf (TA q) (.ref f) 1 [r] c=some (.ok .none (c.set f (.list (g++[r])))):=append_at (by rw[F];exact u) (by omega)
  simp only[O,P,R,S,Option.map_some,bE,ik u (m:=1) (a:=z "append") (by rfl') (.inl rfl),y,x,bK] at e
  have j:bN f c (c.set f (.list (g++[r]))):=bN.set _ _ _
  have k':Kp m al U l (c.set f (.list (g++[r]))):=(k.weak h).trans (j.kp hm (Nat.le_trans h k.le))
  have ht:t<=23:=by rcases W.ts with e|e|e<;>lia
  refine⟨_,l,e,⟨by rw[wx k];exact v,T.only j o,?_,⟨_,Hp.eN o.1,by simp⟩,k',j.off o,j.off E,(s.bt ht).trans (j.bt (by rw[F];exact u))⟩⟩
  rw[Hp.eg C,g2];exact hw
 ·intro B
  obtain⟨c,y,V⟩:=D4 (q:=q) (n:=n+25) (by omega) M W b B
  rw[wy (by decide) (by decide)] at y
  simp only[O,P,R,S,Option.map_some,bE,ik u (m:=1) (a:=z "append") (by rfl') (.inl rfl),y,we,l_] at e
  exact⟨c,e,(Kp.refl m al U).fx V.fx h⟩
theorem HG(hn:200<=n)(W:Wd t K true al U){L f w g ws m}(i:bP L (dI al f w++[(z "first",((D p).fv N).mp (cat al xs))]))(of:Off al U f)(ow:Off al U w)
 (T:U.get w=some (.list ws))(R:U.get f=some (.list g))(b:bR ((D p).fb N) al xs U)(v:36<=p)(B:p<72)(h:cX p<=t)(d:m<=U.length):
 (b9 p=false->∃a l,(run (TA q) (n+30)).ex (bH L) lY U=some (.ok .next L a)/\It m t (dG K (cu p) 773) f w ws g.length al U L l a)/\
 (b9 p=true->∃a,(run (TA q) (n+30)).ex (bH L) lY U=some (.exc L a)/\Fx m al U a):=by
 have e:=Fp (q:=q) (n:=n) L U
 have C:lk (z "first") L=some (((D p).fv N).mp (cat al xs)):=i _ _ (by rfl')
 have E:lk (z "world") L=some (.ref (al 1)):=i _ _ (by rfl')
 have j:bP L (dI al f w):=i.dH _ (by rfl')
 have x:[(D p).fv N,V.ref 1].map (V.mp (cat al xs))=[((D p).fv N).mp (cat al xs),.ref (al 1)]:=by
  simp only[List.map_cons,List.map_nil,cC,b8 (show 1<N by decide)]
 constructor
 ·intro o
  obtain⟨c,l,y,F,s,k⟩:=Ht (q:=q) (n:=n+27) (by omega) v B W h b o
  rw[x] at y
  obtain⟨r,O⟩:=s.off of
  obtain⟨u,P⟩:=s.off ow
  simp only[C,E,Option.map_some,bE,y,bK] at e
  have S:t<=23:=by rcases W.ts with e|e|e<;>lia
  exact⟨c,l,e,⟨by rw[wx k];exact j,F,by rw[P];exact T,⟨g,by rw[O];exact R,rfl⟩,k.weak d,r,u,s.bt S⟩⟩
 ·intro o
  obtain⟨c,y,M⟩:=Ea (q:=q) (n:=n+27) (by omega) v B W h b o
  rw[x] at y
  simp only[C,E,Option.map_some,bE,y,l_] at e
  exact⟨c,e,(Kp.refl m al U).fx M.Hq d⟩
theorem Fr.HH{ms t al U a}(h:Fr ms al U a)(m:ms.all (bT N)=true):St t al U al a:=⟨h.1,λj c q=>h.2 j c λi b=>q i (dE (List.all_eq_true.mp m i b)),λd e f=>rfl,λd e=>rfl⟩
theorem HI(hn:200<=n)(W:Wd t K true al U){L f w s ws m}(r:bP L (dI al f w++[(z "first",((D p).fv N).mp (cat al xs))]))(of:Off al U f)(ow:Off al U w)(ab:f≠w)
 (hw:U.get w=some (.list ws))(hf:U.get f=some (.list s))(lf:s.length<=50)(b:bR ((D p).fb N) al xs U)(h0:72<=p)(hp:p<78)(hm:m<=f)(j:m<=U.length):
 (b9 p=false->∃c,(run (TA q) (n+33)).ax (bH L) [lZ,l0] U=some (.ok .next L c)/\It m t K f w ws (s.length+1) al U L al c)/\
 (b9 p=true->∃c,(run (TA q) (n+33)).ax (bH L) [lZ,l0] U=some (.exc L c)/\Fx m al U c):=by
 have e:=Ft (q:=q) (n:=n+2) L U
 have k1:lk (z "found") L=some (.ref f):=r _ _ (by rfl')
 have k2:lk (z "walk") L=some (.ref (al 98)):=r _ _ (by rfl')
 have k3:lk (z "first") L=some (((D p).fv N).mp (cat al xs)):=r _ _ (by rfl')
 have k4:lk (z "world") L=some (.ref (al 1)):=r _ _ (by rfl')
 have P:bP L (dI al f w):=r.dH _ (by rfl')
 obtain⟨u,d,hy,hu,O,hg,aa⟩:=Hx (q:=q) (n:=n+2+28) (m:=n+1+26) (by omega) (by omega) h0 hp W b
 have ha:[V.ref 98,(D p).fv N,V.ref 9,V.str (z "")].map (V.mp (cat al xs))=[.ref (al 98),((D p).fv N).mp (cat al xs),.ref (al 9),.str (z "")]:=by
  simp only[List.map_cons,List.map_nil,cC,nu,b8 (show 98<N by decide),b8 (show 9<N by decide)]
 rw[ha] at hy
 simp only[k2,k3,k4,Option.map_some,bE,jy (T:=TA q) W.walk W.fm.2.1,W.root,hy,bK] at e
 rw[if_pos hu] at e
 have M:=Fu (q:=q) (n:=n+1) L d
 have E:d.get (al 98)=some (.inst 1781 (al 97)):=by
  rw[O.2 _ (W.lt (by decide)) λi hi h=>?_]
  ·exact W.walk
  ·rw[List.mem_singleton.mp hi] at h
   exact absurd (W.inj (by decide) (by decide) h) (by decide)
 have C:dZ (TA q) 1781 (al 97) (z "run") d=some 1733:=by
  obtain⟨k,h1,_,_,h4⟩:=wk
  refine kr (es:=_) ?_ h1 h4 (?_:cb _ ([(.str (z "world"),.ref 1),(.str (z "jobs"),.ref 99),(.str (z "nodes"),.ref 100),(.str (z "uses"),.int 0),(.str (z "written"),.int 0)].map (em al))=none)
  ·rw[O.2 _ (W.lt (by decide)) λi hi h=>?_]
   ·exact W.at (i:=97) λo=>(rE t o).1
   ·rw[List.mem_singleton.mp hi] at h
    exact absurd (W.inj (by decide) (by decide) h) (by decide)
  ·rfl'
 have s1:St t al U al d:=O.HH (by decide)
 have x:d.get f=some (.list s):=by rw[(s1.off of).2];exact hf
 constructor
 ·intro S
  obtain⟨v,c,y,g⟩:=hg S
  have B:c.get f=some (.list s):=by rw[g.nil _ of.1];exact hf
  have R:cf (TA q) (.ref f) 1 [v] c=some (.ok .none (c.set f (.list (s++[v])))):=append_at B (by omega)
  simp only[k1,k2,Option.map_some,bE,ik x (m:=1) (a:=z "append") (by rfl') (.inl rfl),jy (T:=TA q) E C,y,R,bK] at M
  have l:=of.fr g.1
  have F:bN f c (c.set f (.list (s++[v]))):=bN.set _ _ _
  refine⟨_,?_,⟨P,(W.grow g).only F l,?_,⟨_,Hp.eN l.1,by simp⟩,(g.kp.weak j).trans (F.kp hm (Nat.le_trans j g.1)),F.off l,F.off (ow.fr g.1),?_⟩⟩
  ·rw[bJ (n:=n+2+30) e,bJ (n:=n+1+30) M];rfl
  ·rw[Hp.eg ab,g.nil _ ow.1];exact hw
  ·have ht:t<=23:=by rcases W.ts with e|e|e<;>lia
   exact(g.st.bt ht).trans (F.bt B)
 ·intro S
  obtain⟨c,y,g⟩:=aa S
  simp only[k1,k2,Option.map_some,bE,ik x (m:=1) (a:=z "append") (by rfl') (.inl rfl),jy (T:=TA q) E C,y,we,l_] at M
  exact⟨c,by rw[bJ (n:=n+2+30) e,n_ (n:=n+1+30) M],(Kp.refl m al U).fx g.Hr j⟩
theorem HJ(hn:200<=n)(W:Wd t K true al U){L u d fs ws m}(hL:bP L (dI al u d))(of:Off al U u)(ow:Off al U d)(ah:u≠d)
 (hw:U.get d=some (.list (ws++[((D p).fv N).mp (cat al xs)])))(hf:U.get u=some (.list fs))(lw:ws.length<=50)(lf:fs.length<=50)(b:bR ((D p).fb N) al xs U)(hp:p<78)(B:cX p<=t)(hm:m<=u)(az:m<=d)(af:m<=U.length):
 (b9 p=false->∃s j l,(run (TA q) (n+91)).ax (bH L) (cT cx) U=some (.ok .next s j)/\It m t (fG p K) u d ws (fs.length+fg p) al U s l j)/\
 (b9 p=true->∃s j,(run (TA q) (n+91)).ax (bH L) (cT cx) U=some (.exc s j)/\Fx m al U j):=by
 have e:=vM (q:=q) (n:=n+60) L U
 have k2:lk (z "walk") L=some (.ref (al 98)):=hL _ _ (by rfl')
 have k3:lk (z "waiting") L=some (.ref d):=hL _ _ (by rfl')
 have k4:lk (z "world") L=some (.ref (al 1)):=hL _ _ (by rfl')
 have E:bN d U (U.set d (.list ws)):=bN.set _ _ _
 have au:cf (TA q) (.ref d) 2 [] U=some (.ok (((D p).fv N).mp (cat al xs)) (U.set d (.list ws))):=pop_at hw (by omega)
 have aA:(U.set d (.list ws)).get d=some (.list ws):=Hp.eN ow.1
 have ay:(U.set d (.list ws)).get u=some (.list fs):=by rw[Hp.eg (Ne.symm ah)];exact hf
 have aq:Bt t al U al (U.set d (.list ws)):=E.bt hw
 have aC:Kp m al U al (U.set d (.list ws)):=E.kp az af
 generalize U.set d (.list ws)=aD at*
 have W1:=W.only E ow
 have b1:=aq p xs hp B b
 obtain⟨⟨j,hy,v⟩,_⟩:=wo (q:=q) (n:=n+60+28) (by omega) hp W1 b1
 simp only[k2,k3,k4,Option.map_some,bE,jy (T:=TA q) W.walk W.fm.1,ik hw (m:=2) (a:=z "pop") (by rfl') (.inr (.inl rfl)),au,W1.root,hy,bK] at e
 have V:=(wu hL (((D p).fv N).mp (cat al xs))).1
 generalize put (z "first") (((D p).fv N).mp (cat al xs)) L=L1 at e V
 have W2:=W1.grow v
 have b2:=b1.grow v
 obtain⟨_,g,aB,S⟩:=wo (q:=q) (n:=n+59+27) (by omega) hp W2 b2
 have e1:=vQ (q:=q) (n:=n+59) L1 j
 have k5:lk (z "first") L1=some (((D p).fv N).mp (cat al xs)):=V _ _ (by rfl')
 have k6:lk (z "world") L1=some (.ref (al 1)):=V _ _ (by rfl')
 simp only[k5,k6,Option.map_some,bE,W2.root,aB,bK] at e1
 have aa:bP (put (z "word") (eI p) L1) (dI al u d++[(z "first",((D p).fv N).mp (cat al xs)),(z "word",eI p)]):=(V.put (z "word") (eI p)).dH _ (by rfl')
 generalize put (z "word") (eI p) L1=s at e1 aa
 have W3:=W2.grow S
 have b3:=b2.grow S
 have ht:t<=23:=by rcases W.ts with e|e|e<;>lia
 have aj:Off al g u:=((E.off of).fr v.1).fr S.1
 have ak:Off al g d:=((E.off ow).fr v.1).fr S.1
 have ai:g.get d=some (.list ws):=by rw[S.nil _ ((E.off ow).fr v.1).1,v.nil _ (E.off ow).1];exact aA
 have ae:g.get u=some (.list fs):=by rw[S.nil _ ((E.off of).fr v.1).1,v.nil _ (E.off of).1];exact ay
 have ar:m<=j.length:=Nat.le_trans af (Nat.le_trans E.1 v.1)
 have av:Kp m al U al g:=(aC.trans (v.kp.weak (Nat.le_trans af E.1))).trans (S.kp.weak ar)
 have aw:Bt t al U al g:=(aq.trans (v.st.bt ht)).trans (S.st.bt ht)
 have ab:bP s (dI al u d++[(z "first",((D p).fv N).mp (cat al xs))]):=aa.dH _ (by rfl')
 have C:lk (z "word") s=some (eI p):=aa _ _ (by rfl')
 have ao:∀r,(run (TA q) (n+88)).ex (bH s) eU g=r->(∀P k,r=some (.ok .next P k)->(run (TA q) (n+91)).ax (bH L) (cT cx) U=some (.ok .next P k))/\(∀P k,r=some (.exc P k)->(run (TA q) (n+91)).ax (bH L) (cT cx) U=some (.exc P k)):=by
  intro r hr
  subst hr
  constructor
  ·intro P k h
   rw[qQ,bJ (n:=n+60+30) e,bJ (n:=n+59+30) e1,bJ h];rfl
  ·intro P k h
   rw[qQ,bJ (n:=n+60+30) e,bJ (n:=n+59+30) e1,n_ h]
 have F:∀{K' fl P l c},It m t K' u d ws fl al g P l c->It m t K' u d ws fl al U P l c:=λi=>⟨i.has,i.W,i.w,i.f,av.trans i.kp,i.of,i.ow,aw.trans i.bt⟩
 have o:∀{c},Fx m al g c->Fx m al U c:=λx=>av.fx x (Nat.le_refl _)
 have ag:m<=g.length:=Nat.le_trans ar S.1
 by_cases R:p<36
 ·have hk:eI p=.str (z "define"):=by unfold eI;rw[fH R];rfl
  rw[hk] at C
  have r:=ao _ (HC (q:=q) (n:=n) C)
  have h:=HF (q:=q) (n:=n+54) (by omega) W3 ab aj ak ah ai ae lf b3 R hm ag
  refine⟨λy=>?_,λy=>?_⟩
  ·obtain⟨c,l,M,O⟩:=h.1 y
   refine⟨s,c,l,r.1 _ _ M,?_⟩
   have he:fG p K=dG K (cu p) (er (K (cu p))):=by unfold fG;rw[fH R];rfl
   have hc:fg p=1:=by unfold fg cR;rw[fH R];rfl
   rw[he,hc];exact F O
  ·obtain⟨c,M,O⟩:=h.2 y
   exact⟨s,c,r.2 _ _ M,o O⟩
 ·by_cases h2:p<72
  ·have hk:eI p=.str (z "define-syntax"):=by unfold eI;rw[eJ (Nat.le_of_not_lt R),fH h2];rfl
   rw[hk] at C
   have r:=ao _ (HD (q:=q) (n:=n) C)
   have h:=HG (q:=q) (n:=n+52) (by omega) W3 ab aj ak ai ae b3 (by omega) h2 B ag
   refine⟨λy=>?_,λy=>?_⟩
   ·obtain⟨c,l,M,O⟩:=h.1 y
    refine⟨s,c,l,r.1 _ _ M,?_⟩
    have he:fG p K=dG K (cu p) 773:=by unfold fG;rw[eJ (Nat.le_of_not_lt R),fH h2];rfl
    have hc:fg p=0:=by unfold fg cR;rw[eJ (Nat.le_of_not_lt R),fH h2];rfl
    rw[he,hc];exact F O
   ·obtain⟨c,M,O⟩:=h.2 y
    exact⟨s,c,r.2 _ _ M,o O⟩
  ·have hk:eI p=.str (z "quote")\/eI p=.none:=by
    unfold eI
    rw[eJ (Nat.le_of_not_lt R),eJ (Nat.le_of_not_lt h2)]
    cases Nat.beq p 72||Nat.beq p 75
    ·exact .inr rfl
    ·exact .inl rfl
   have r:=ao _ (HE (q:=q) (n:=n) (eI p) (by rcases hk with h|h<;>rw[h]<;>rfl') (by rcases hk with h|h<;>rw[h]<;>rfl') (by rcases hk with h|h<;>rw[h]<;>rfl') C)
   have h:=HI (q:=q) (n:=n+50) (by omega) W3 ab aj ak ah ai ae lf b3 (by omega) hp hm ag
   refine⟨λy=>?_,λy=>?_⟩
   ·obtain⟨c,M,O⟩:=h.1 y
    refine⟨s,c,al,r.1 _ _ M,?_⟩
    have he:fG p K=K:=by unfold fG;rw[eJ (Nat.le_of_not_lt R),eJ (Nat.le_of_not_lt h2)];rfl
    have hc:fg p=1:=by unfold fg cR;rw[eJ (Nat.le_of_not_lt R),eJ (Nat.le_of_not_lt h2)];rfl
    rw[he,hc];exact F O
   ·obtain⟨c,M,O⟩:=h.2 y
    exact⟨s,c,r.2 _ _ M,o O⟩
structure Kq(m:Nat)(al:Nat->Nat)(U:Hp)(al2:Nat->Nat)(τ1:Hp):Prop where
 le:U.length<=τ1.length
 fr:∀j,j<m->j≠al 10->j≠al 99->j≠al 100->τ1.get j=U.get j
 keep:∀i,i<57->al2 i=al i
 new:∀i,i<N->al2 i<m->al2 i=al i
theorem Kp.kq{m al U a c}(b:Kp m al U a c):Kq m al U a c:=⟨b.le,b.fr,λi h=>b.keep i (by unfold N;lia) (.inl h),b.new⟩
theorem Kq.ne{m al U l b j i}(a:Kq m al U l b)(c:i<N)(d:j<m)(h:j≠al i):j≠l i:=λe=>by
 have:=a.new i c (by rw[←e];exact d)
 rw[this] at e;exact h e
theorem Kq.trans{m al U l g c k}(a:Kq m al U l g)(b:Kq m l g c k):Kq m al U c k:=by
 refine⟨Nat.le_trans a.le b.le,λj f n o p=>?_,λi d=>by rw[b.keep i d,a.keep i d],λi d h=>?_⟩
 ·rw[b.fr j f (a.ne (by decide) f n) (a.ne (by decide) f o) (a.ne (by decide) f p),a.fr j f n o p]
 ·have e:=b.new i d h
  rw[e] at h⊢;exact a.new i d h
theorem Kq.fx{m al U l c d}(a:Kq m al U l c)(b:Fx m l c d):Fx m al U d:=⟨Nat.le_trans a.le b.1,λj h e f g=>by
 rw[b.2 j h (a.ne (by decide) h e) (a.ne (by decide) h f) (a.ne (by decide) h g),a.fr j h e f g]⟩
theorem Gr.kq{m al G U}(g:Gr G U)(a:m<=G.length):Kq m al G al U:=⟨g.1,λj h b c d=>g.2 j (Nat.lt_of_lt_of_le h a),λb c=>rfl,λb c d=>rfl⟩
theorem Wd.gr{t K w al G U}(W:Wd t K w al G)(g:Gr G U):Wd t K w al U:=W.grow g.fr
theorem Off.gr{al G U a}(o:Off al G a)(g:Gr G U):Off al U a:=o.fr g.1
theorem Gr.bt{t al G U}(g:Gr G U)(h:t<=23):Bt t al G al U:=(Fr.st (t:=t) (g.fr (al:=al))).bt h
theorem Wd.jA{t K w al U}(W:Wd t K w al U):t<=23:=by rcases W.ts with e|e|e<;>lia
theorem HK:∀t,t=21\/t=22\/t=23->∀o,dP (Ew t o false) (Ew t o true)=true:=by
 have:([21,22,23].all λt=>[false,true].all λo=>dP (Ew t o false) (Ew t o true))=true:=by decide+kernel
 intro t h o
 exact all2 (List.all_eq_true.mp this t (three h)) o
theorem Wd.wz{t K al U}(W:Wd t K true al U):Wd t K false al U:=
 ⟨W.im.mono (by rw[cS,cS];exact Nat.le_refl _) λi o e=>jq (HK t W.ts _) e,W.ks,W.kv,W.ts⟩
theorem HL(u:150<=n)(W:Wd t K false al U):
 ∃b a,(run (TA q) n).dJ (.old 1781) [.ref (al 1)] U=some (.ok (.ref (a 98)) b)/\Wd t K true a b/\St t al U a b/\Kq U.length al U a b:=by
 have k:=Ex
 unfold vD at k
 obtain⟨c,k⟩:=Bool.and_eq_true_iff.mp k
 have h:=all2 (List.all_eq_true.mp Ez t (three W.ts)) (!Nat.beq (K 3) 0)
 rw[Bool.and_eq_true] at h
 obtain⟨e,l⟩:=W.le (dg _ _ _ _ _ _) h.1
 obtain⟨v,b,a,ys,y,g,w⟩:=go e (bR.nil (xs:=al)) (dg _ _ _ _ _ _) l (dg _ _ _ _ _ _) (by decide) (λf r o=>vC (q:=q) u c f r o rfl) k
 rw[w _ rfl] at y
 obtain⟨d,s⟩:=W.vm g (dg _ _ _ _ _ _) h.2 W.ts
 refine⟨b,a,y,d,s,g.le,λj p x z B=>g.fr j p λi c=>absurd c List.not_mem_nil,λi c=>g.kept i (Qm c rfl) λm=>?_,g.new⟩
 simp only[List.mem_cons,List.not_mem_nil,or_false] at m
 rcases m with rfl|rfl|rfl|rfl<;>exact absurd c (by decide)
def cK(al:Nat->Nat)(e:Nat×(Nat->Nat)):V:=((D e.1).fv N).mp (cat al e.2)
def me(ps:List (Nat×(Nat->Nat)))(K:Nat->Nat):Nat->Nat:=ps.foldl (λK e=>fG e.1 K) K
def ku(ps:List (Nat×(Nat->Nat))):Nat:=(ps.map λe=>fg e.1).sum
theorem rG{T:Tb}{G:Hp}{m:Nat}:cmp T G .Gt (int m) (int 0)=some (!Nat.beq m 0):=by
 show some (!Nat.ble m 0)=_
 cases m<;>rfl
theorem wA{fa wa m:Nat}(aq:fa≠wa)(hm:m<=fa)(ao:m<=wa):∀(ps:List (Nat×(Nat->Nat))) (K:Nat->Nat) (al:Nat->Nat) (U:Hp) (L:List (Str×V)) (y:List V) (n:Nat),200+ps.length<=n->ps.length<=20->y.length+ps.length<=40->Wd t K true al U->
 bP L (dI al fa wa)->Off al U fa->Off al U wa->U.get wa=some (.list (ps.map (cK al)).reverse)->U.get fa=some (.list y)->(∀e∈ps,e.1<78/\cX e.1<=t/\bR ((D e.1).fb N) al e.2 U)->m<=U.length->
 ((ps.all λe=>!b9 e.1)=true->∃c a l,(run (TA q) (n+92)).cA (bH L) (eu cx) (cT cx) U=some (.ok .next c a)/\It m t (me ps K) fa wa [] (y.length+ku ps) al U c l a)/\
 ((ps.all λe=>!b9 e.1)=false->∃c a,(run (TA q) (n+92)).cA (bH L) (eu cx) (cT cx) U=some (.exc c a)/\Fx m al U a):=by
 intro ps
 induction ps with
 |nil=>
  intro K al U L y n hn _ _ W C of ow B hf _ s
  refine⟨λ_=>⟨L,U,al,?_,⟨C,W,B,⟨y,hf,rfl⟩,Kp.refl _ _ _,of,ow,Bt.refl _ _ _⟩⟩,λh=>by cases h⟩
  have e:=qO (q:=q) (n:=n+61) L U
  have k1:lk (z "waiting") L=some (.ref wa):=C _ _ (by rfl')
  have ar:U.get wa=some (.list []):=B
  simp only[k1,Option.map_some,bE,il (T:=TA q) ar (show[].length<4096 by decide),rG] at e
  rw[ma]
  show lift _ ((run (TA q) (n+61+30)).ev _ _ _) _=_
  rw[e];rfl
 |cons g ps ih=>
  intro K al U L y n hn ai aj W C of ow B hf o s
  rw[List.length_cons] at hn ai aj
  obtain⟨n,rfl⟩:∃k,n=k+1:=⟨n-1,by omega⟩
  obtain⟨hp,u,b⟩:=o g (.head _)
  rw[List.map_cons,List.reverse_cons] at B
  have P:(ps.map (cK al)).reverse.length=ps.length:=by rw[List.length_reverse,List.length_map]
  have e:=qO (q:=q) (n:=n+62) L U
  have k1:lk (z "waiting") L=some (.ref wa):=C _ _ (by rfl')
  have F:((ps.map (cK al)).reverse++[cK al g]).length=ps.length+1:=by rw[List.length_append,P];rfl
  simp only[k1,Option.map_some,bE,il (T:=TA q) B (show _<4096 by rw[F];omega),rG,F] at e
  have e:(run (TA q) (n+92)).ev (bH L) (eu cx) U=some (.ok (.bool true) U):=e
  have it:=HJ (q:=q) (n:=n+1) (by lia) W C of ow aq B hf (by rw[P];lia) (by lia) b hp u hm ao s
  have v:(run (TA q) (n+1+92)).cA (bH L) (eu cx) (cT cx) U=dS ((run (TA q) (n+1+91)).ax (bH L) (cT cx) U) λQ G=>(run (TA q) (n+92)).cA ⟨dh 1813,Q,[]⟩ (eu cx) (cT cx) G:=by
   rw[ma]
   show lift _ ((run (TA q) (n+92)).ev _ _ _) _=_
   rw[e];rfl
  cases d:b9 g.1 with
  |true=>
   obtain⟨c,a,R,h2⟩:=it.2 d
   refine⟨λh=>?_,λ_=>⟨c,a,?_,h2⟩⟩
   ·rw[List.all_cons,d] at h;ext h
   ·rw[v,R];rfl
  |false=>
   obtain⟨c,a,l,R,i⟩:=it.1 d
   obtain⟨ab,af,ah⟩:=i.f
   have O:∀e∈ps,cK l e=cK al e:=λe p=>HA (o e (.tail _ p)).1 i.kp
   have M:ps.map (cK l)=ps.map (cK al):=List.map_congr_left O
   have au:fg g.1<=1:=by unfold fg;cases Nat.beq (cR g.1) 1<;>decide
   have r:=ih (fG g.1 K) l a c ab n (by lia) (by lia) (by lia) i.W i.has i.of i.ow (by rw[M];exact i.w) af (λe p=>⟨(o e (.tail _ p)).1,(o e (.tail _ p)).2.1,i.bt _ _ (o e (.tail _ p)).1 (o e (.tail _ p)).2.1 (o e (.tail _ p)).2.2⟩) (Nat.le_trans s i.kp.le)
   have E:((g::ps).all λe=>!b9 e.1)=ps.all λe=>!b9 e.1:=by rw[List.all_cons,d];rfl
   rw[E]
   refine⟨λh=>?_,λh=>?_⟩
   ·obtain⟨S,x,aa,x1,j⟩:=r.1 h
    refine⟨S,x,aa,?_,⟨j.has,j.W,j.w,?_,i.kp.trans j.kp,j.of,j.ow,i.bt.trans j.bt⟩⟩
    ·rw[v,R];exact x1
    ·obtain⟨ae,ag,ak⟩:=j.f
     refine⟨ae,ag,?_⟩
     rw[ak,ah]
     unfold ku
     rw[List.map_cons,List.sum_cons];lia
   ·obtain⟨S,x,x1,x2⟩:=r.2 h
    refine⟨S,x,?_,i.kp.fx x2 (Nat.le_refl _)⟩
    rw[v,R];exact x1
theorem Kq.weak{m d al U a b}(h:Kq d al U a b)(c:m<=d):Kq m al U a b:=⟨h.le,λj g=>h.fr j (Nat.lt_of_lt_of_le g c),h.keep,λi f e=>h.new i f (Nat.lt_of_lt_of_le e c)⟩
theorem Wd.off{t K w al U}(W:Wd t K w al U){G:Hp}{a:Nat}(h:U.length<=a)(b:a<G.length):Off al G a:=⟨b,λi c e=>by have:=W.lt c;lia⟩
theorem wB(v w:V)(G:Hp):(run (TA q) (n+40)).call 1813 [v,w] G=callEnd ((run (TA q) (n+39)).ax (bH [(z "form",v),(z "world",w)]) [oy,oz,oA,cx,oB] G):=by rfl'
theorem wC(hn:200<=n)(W:Wd t K false al U)(v:V):∃L b l w,bP L (dI l U.length w)/\Wd t K true l b/\Off l b U.length/\Off l b w/\U.length<=w/\U.length≠w/\b.get U.length=some (.list [])/\b.get w=some (.list [v])/\Kq U.length al U l b/\St t al U l b/\
 (∀d c f j,(run (TA q) (n+92)).cA (bH L) (eu cx) (cT cx) b=some (.ok .next d c)->bP d (dI f U.length j)->(run (TA q) (n+98)).call 1813 [v,.ref (al 1)] U=some (.ok (.ref U.length) c))/\
 (∀d c,(run (TA q) (n+92)).cA (bH L) (eu cx) (cT cx) b=some (.exc d c)->(run (TA q) (n+98)).call 1813 [v,.ref (al 1)] U=some (.exc c)):=by
 have p:=Fe (q:=q) (n:=n+66) [(z "form",v),(z "world",.ref (al 1))] U
 have O:bS ([]:List V).length=true:=rfl
 simp only[bE,O,if_true,bK] at p
 have h:bP (put (z "found") (.ref U.length) [(z "form",v),(z "world",.ref (al 1))]) [(z "form",v),(z "world",.ref (al 1)),(z "found",.ref U.length)]:=(bP.refl _).dH _ (by rfl')
 generalize put (z "found") (.ref U.length) [(z "form",v),(z "world",.ref (al 1))]=m at p h
 have N:=Gr.push U (.list [])
 have R:(U.push (.list [])).length=U.length+1:=Hp.length_push _ _
 have q1:(U.push (.list [])).get U.length=some (.list []):=Hp.cB _ _
 generalize U.push (.list [])=a at*
 have r:=Ff (q:=q) (n:=n+65) m a
 have k1:lk (z "form") m=some v:=h _ _ (by rfl')
 have i:bS [v].length=true:=rfl
 simp only[k1,Option.map_some,bE,i,if_true,bK] at r
 have h:bP (put (z "waiting") (.ref a.length) m) [(z "world",.ref (al 1)),(z "found",.ref U.length),(z "waiting",.ref a.length)]:=(h.put (z "waiting") (.ref a.length)).dH _ (by rfl')
 generalize put (z "waiting") (.ref a.length) m=o at r h
 have F:=Gr.push a (.list [v])
 have S:(a.push (.list [v])).length=a.length+1:=Hp.length_push _ _
 have q2:(a.push (.list [v])).get a.length=some (.list [v]):=Hp.cB _ _
 generalize a.push (.list [v])=e at*
 have g:=N.trans F
 obtain⟨b,l,T,M,s,k⟩:=HL (q:=q) (n:=n+64+28) (by omega) (W.gr g)
 have u:=Fg (q:=q) (n:=n+64) o e
 have k2:lk (z "world") o=some (.ref (al 1)):=h _ _ (by rfl')
 simp only[k2,Option.map_some,bE,T,bK] at u
 have h:bP (put (z "walk") (.ref (l 98)) o) (dI l U.length a.length):=by
  unfold dI
  rw[k.keep 1 (by decide)]
  exact(h.put (z "walk") (.ref (l 98))).dH _ (by rfl')
 generalize put (z "walk") (.ref (l 98)) o=x at u h
 have of:Off al e U.length:=W.off (Nat.le_refl _) (by lia)
 have ow:Off al e a.length:=W.off (by lia) (by omega)
 obtain⟨C,x1⟩:=s.off of
 obtain⟨D,x2⟩:=s.off ow
 refine⟨x,b,l,a.length,h,M,C,D,by lia,by lia,by rw[x1];exact F.at q1,by rw[x2];exact q2,(g.kq (Nat.le_refl _)).trans (k.weak g.1),(Fr.st (g.fr (al:=al))).trans s (Nat.le_refl _),λd c f j B P=>?_,λd c B=>?_⟩
 ·have y:=(vK (q:=q) (n:=n+63) x b).trans B
  have E:=Fz (q:=q) (n:=n+62) d c
  have k3:lk (z "found") d=some (.ref U.length):=P _ _ (by rfl')
  simp only[k3,Option.map_some,bK] at E
  rw[wB (n:=n+58)]
  have i:(run (TA q) (n+66+31)).ax (bH [(z "form",v),(z "world",.ref (al 1))]) [oy,oz,oA,cx,oB] U=some (.ok (.ret (.ref U.length)) d c):=by
   rw[bJ p,bJ (n:=n+65+30) r,bJ (n:=n+64+30) u,bJ (n:=n+63+30) y,gP (n:=n+62+30) E]
  exact(congrArg callEnd i).trans rfl
 ·have y:=(vK (q:=q) (n:=n+63) x b).trans B
  rw[wB (n:=n+58)]
  have i:(run (TA q) (n+66+31)).ax (bH [(z "form",v),(z "world",.ref (al 1))]) [oy,oz,oA,cx,oB] U=some (.exc d c):=by
   rw[bJ p,bJ (n:=n+65+30) r,bJ (n:=n+64+30) u,n_ (n:=n+63+30) y]
  exact(congrArg callEnd i).trans rfl
noncomputable def oQ(q:Option (Nat×List V))(n t:Nat)(K:Nat->Nat)(al:Nat->Nat)(U:Hp)(v:V)(ps:List (Nat×(Nat->Nat))):Prop:=
 ((ps.all λe=>!b9 e.1)=true->∃a f b l,(run (TA q) n).call 1813 [v,.ref (al 1)] U=some (.ok (.ref a) b)/\b.get a=some (.list f)/\f.length=ku ps/\U.length<=a/\Wd t (me ps K) false l b/\Kq U.length al U l b/\Off l b a)/\
 ((ps.all λe=>!b9 e.1)=false->∃b,(run (TA q) n).call 1813 [v,.ref (al 1)] U=some (.exc b)/\Fx U.length al U b)
theorem HM(hn:400<=n)(W:Wd t K false al U)(v:p<78)(d:cX p<=t)(b:bR ((D p).fb N) al xs U):oQ q n t K al U (cK al (p,xs)) [(p,xs)]:=by
 obtain⟨n,rfl⟩:∃k,n=k+98:=⟨n-98,by omega⟩
 obtain⟨L,g,l,B,F,C,T,ow,y,u,O,S,k,s,r1,r2⟩:=wC (q:=q) (n:=n) (by lia) W (cK al (p,xs))
 have R:cK l (p,xs)=cK al (p,xs):=by
  have:=kt v
  unfold iW at this
  simp only[Bool.and_eq_true] at this
  refine V.dM (λi h=>?_) this.1
  rw[Bool.or_eq_true] at h
  by_cases z:i<N
  ·rw[b8 z,b8 z]
   rcases h with h|h
   ·exact k.keep i (dE h)
   ·have:=Nat.le_of_ble_eq_true h;lia
  ·rw[dm (by omega),dm (by omega)]
 have r:=wA (q:=q) (m:=U.length) u (Nat.le_refl _) y [(p,xs)] K l g L [] n (by simp only[List.length_cons,List.length_nil];lia) (by simp) (by simp) C F T ow (by
  show g.get B=some (.list [cK l (p,xs)])
  rw[R];exact S) O (λe M=>by
  rw[List.mem_singleton.mp M]
  exact⟨v,d,s.bt W.jA _ _ v d b⟩) k.le
 constructor
 ·intro h
  obtain⟨j,a,c,w,i⟩:=r.1 h
  obtain⟨E,o,P⟩:=i.f
  exact⟨U.length,E,a,c,r1 j a c B w i.has,o,by rw[P];exact Nat.zero_add _,Nat.le_refl _,i.W.wz,k.trans i.kp.kq,i.of⟩
 ·intro h
  obtain⟨j,a,w,x⟩:=r.2 h
  exact⟨a,r2 j a w,k.fx x⟩
noncomputable def f4(d p a b i:Nat):Nat:=if i=0 then d else if i=1 then p else if i=2 then a else b
theorem oU{i:Nat}(h:i<4):i=0\/i=1\/i=2\/i=3:=by lia
theorem wD{P:Nat->Prop}{d p f g:Nat}(a:P d)(b:P p)(c:P f)(e:P g){i:Nat}(h:i<4):P (f4 d p f g i):=by
 rcases oU h with rfl|rfl|rfl|rfl
 ·exact a
 ·exact b
 ·exact c
 ·exact e
theorem HN{d p a b:Nat}(n:p≠d)(f:p≠a)(g:b≠d)(k:b≠a)(l:p≠b)(m:d≠a){i j:Nat}(h:i<4)(c:j<4)(e:f4 d p a b i=f4 d p a b j):i=j:=by
 rcases oU h with rfl|rfl|rfl|rfl<;>rcases oU c with rfl|rfl|rfl|rfl<;>first|rfl|exact absurd e ‹_›|exact absurd e.symm ‹_›
theorem HP{B:Nat}{v y:V}{ys:List V}(c:Ch B U v (.ref (al 20)::y::ys))(h:∀a,B<=a->a<U.length->Off al U a):∃C,v=.ref (C 1)/\bR (j_ 4) al C U:=by
 obtain⟨p,d,w,rfl,u,x,b,k,s⟩:=c
 have g:=s
 obtain⟨q,n,W,rfl,E,F,l,m,t⟩:=s
 have K:p≠d:=λe=>by rw[e,k] at b;ext b
 have L:p≠n:=λe=>by rw[e,m] at b;ext b
 have M:q≠d:=λe=>by rw[e,k] at l;ext l
 have R:q≠n:=λe=>by rw[e,m] at l;ext l
 have S:p≠q:=λe=>by
  subst e
  have:=Ch.det (xs:=.ref (al 20)::y::ys) ⟨p,d,_,rfl,u,x,b,k,g⟩ g
  have:=congrArg List.length this
  simp at this
 have T:d≠n:=λe=>by
  subst e
  rw[k] at m
  have D:=(wg (O.dict.inj (Option.some.inj m))).2
  rw[←D] at t
  have:=g.det t
  have:=congrArg List.length this
  simp at this
 refine⟨f4 d p n q,rfl,⟨λi j f r e=>HN K L M R S T f r e,λi f=>wD (P:=λa=>a<U.length) (Hp.cj k) (Hp.cj b) (Hp.cj m) (Hp.cj l) f,λi j f r e=>
  wD (P:=λa=>al i≠a) (λe=>(h d x (Hp.cj k)).2 i f e) (λe=>(h p u (Hp.cj b)).2 i f e) (λe=>(h n F (Hp.cj m)).2 i f e) (λe=>(h q E (Hp.cj l)).2 i f e) r e,λi o e=>?_⟩⟩
 ·rcases oU (List.getElem?_eq_some_iff.mp e).1 with rfl|rfl|rfl|rfl
  ·ext e
   show U.get d=some (O.dict [(.str (z "car"),.ref (cat al _ 20)),(.str (z "cdr"),.ref (cat al _ (N+3))),(.str (z "mark"),.none)])
   rw[b8 (by decide),dm (by lia),Nat.add_sub_cancel_left]
   exact k
  ·ext e
   show U.get p=some (O.inst 482 (cat al _ N))
   rw[dm (Nat.le_refl _),Nat.sub_self]
   exact b
  ·ext e
  ·ext e
theorem HQ(d:Dt)(b:Nat)(f:Nat->Nat):fK (some ((d.fv b).mp f))=some ((d.fv b).mp f):=by cases d<;>rfl
theorem HR:j5 21 (j_ 4)=true:=by decide+kernel
theorem HS:V.str (nm 4)=.str (z "begin"):=by rfl'
theorem HU(hn:400<=n)(W:Wd t K false al U){lo:Nat}{v:V}{O:Nat×(Nat->Nat)}{ps:List (Nat×(Nat->Nat))}(c:Ch lo U v (.ref (al 20)::(O::ps).map (cK al)))(hl:ps.length<=2)(S:∀a,lo<=a->a<U.length->Off al U a)
 (hb:∀e∈O::ps,e.1<78/\cX e.1<=t/\bR ((D e.1).fb N) al e.2 U):oQ q n t K al U v (O::ps):=by
 obtain⟨n,rfl⟩:∃k,n=k+1+98:=⟨n-99,by omega⟩
 obtain⟨L,d,l,w,hL,W3,of,ow,aM,aF,hf,hw,k,s,r1,r2⟩:=wC (q:=q) (n:=n+1) (by lia) W v
 obtain⟨j,rfl,b0⟩:=HP c S
 have ao:21<=t:=by rcases W.ts with e|e|e<;>omega
 have b3:=b0.st s W.jA (rF ao HR)
 have c3:Ch lo d (.ref (j 1)) (.ref (al 20)::(O::ps).map (cK al)):=c.mono λa o h1 h2=>by
  rw[(s.off (S a h1 (Hp.cj h2))).2];exact h2
 have p:∀e∈O::ps,e.1<78/\cX e.1<=t/\bR ((D e.1).fb N) l e.2 d:=λe u=>⟨(hb e u).1,(hb e u).2.1,s.bt W.jA _ _ (hb e u).1 (hb e u).2.1 (hb e u).2.2⟩
 have aq:∀e∈O::ps,cK l e=cK al e:=λe u=>by
  have:=kt (hb e u).1
  unfold iW at this
  simp only[Bool.and_eq_true] at this
  refine V.dM (λi h=>?_) this.1
  rw[Bool.or_eq_true] at h
  by_cases hi:i<N
  ·rw[b8 hi,b8 hi]
   rcases h with h|h
   ·exact k.keep i (dE h)
   ·have:=Nat.le_of_ble_eq_true h;lia
  ·rw[dm (by omega),dm (by omega)]
 have aj:(O::ps).map (cK l)=(O::ps).map (cK al):=List.map_congr_left aq
 generalize ar:(O::ps).map (cK al)=g at*
 have aV:g.length=ps.length+1:=by rw[←ar,List.length_map];rfl
 have aD:∀y∈V.ref (al 20)::g,fK (some y)=some y:=λy hy=>by
  rcases List.mem_cons.mp hy with rfl|hy
  ·rfl
  ·rw[←ar] at hy
   obtain⟨e,_,rfl⟩:=List.mem_map.mp hy
   exact HQ _ _ _
 have k2:lk (z "walk") L=some (.ref (l 98)):=hL _ _ (by rfl')
 have k3:lk (z "waiting") L=some (.ref w):=hL _ _ (by rfl')
 have k4:lk (z "world") L=some (.ref (l 1)):=hL _ _ (by rfl')
 have et:=qO (q:=q) (n:=n+62) L d
 simp only[k3,Option.map_some,bE,il (T:=TA q) hw (show[V.ref (j 1)].length<4096 by simp),rG] at et
 have et:(run (TA q) (n+92)).ev (bH L) (eu cx) d=some (.ok (.bool true) d):=et
 have e:=vM (q:=q) (n:=n+1+60) L d
 have o1:bN w d (d.set w (.list [])):=bN.set _ _ _
 have ak:cf (TA q) (.ref w) 2 [] d=some (.ok (.ref (j 1)) (d.set w (.list []))):=pop_at (xs:=[]) hw (by simp)
 have av:(d.set w (.list [])).get w=some (.list []):=Hp.eN ow.1
 have az:(d.set w (.list [])).get U.length=some (.list []):=by rw[Hp.eg (Ne.symm aF)];exact hf
 have ay:Bt t l d l (d.set w (.list [])):=o1.bt hw
 have c4:=c3.keep (U:=d.set w (.list [])) hw λa h1 h2=>o1.2 a h2 h1
 have aP:Kp U.length l d l (d.set w (.list [])):=o1.kp aM k.le
 generalize d.set w (.list [])=C at*
 have W4:=W3.only o1 ow
 have b4:bR (j_ 4) l j C:=b3.only o1 λi hi q=>by have:=b0.lt i hi;lia
 have aG:lV.map (V.mp (cat l j))=[.ref (l 98),.ref (j 1),.ref (l 9)]:=by
  show[V.ref (cat l j 98),V.ref (cat l j (N+1)),V.ref (cat l j 9)]=_
  rw[b8 (show 98<N by decide),b8 (show 9<N by decide),dm (show N<=N+1 by lia),Nat.add_sub_cancel_left]
 have aB:lW.map (V.mp (cat l j))=[.ref (j 1),.ref (l 9)]:=by
  show[V.ref (cat l j (N+1)),V.ref (cat l j 9)]=_
  rw[b8 (show 9<N by decide),dm (show N<=N+1 by lia),Nat.add_sub_cancel_left]
 obtain⟨⟨aQ,hy,f5⟩,_⟩:=qK (q:=q) (n:=n+1+60+28) (by lia) W4 (h:=4) (by decide) b4
 rw[aG] at hy
 simp only[k2,k3,k4,Option.map_some,bE,jy (T:=TA q) W3.walk W3.fm.1,ik hw (m:=2) (a:=z "pop") (by rfl') (.inr (.inl rfl)),ak,W4.root,hy,bK] at e
 have R:=(wu hL (.ref (j 1))).1
 generalize put (z "first") (.ref (j 1)) L=L1 at e R
 have W5:=W4.grow f5
 have b5:=b4.grow f5
 obtain⟨_,ae,aw,f6⟩:=qK (q:=q) (n:=n+1+59+27) (by lia) W5 (h:=4) (by decide) b5
 rw[aB,HS] at aw
 have e1:=vQ (q:=q) (n:=n+1+59) L1 aQ
 have k5:lk (z "first") L1=some (.ref (j 1)):=R _ _ (by rfl')
 have k6:lk (z "world") L1=some (.ref (l 1)):=R _ _ (by rfl')
 simp only[k5,k6,Option.map_some,bE,W5.root,aw,bK] at e1
 have E:bP (put (z "word") (.str (z "begin")) L1) (dI l U.length w++[(z "first",.ref (j 1)),(z "word",.str (z "begin"))]):=(R.put (z "word") (.str (z "begin"))).dH _ (by rfl')
 generalize put (z "word") (.str (z "begin")) L1=L2 at e1 E
 have P:Gr C ae:=(Gr.of f5).trans (Gr.of f6)
 have c6:=c4.gr P
 obtain⟨pa,b,aO,aH,g7,aU⟩:=Ho (q:=q) (n:=n+1+56+25) aD (by lia) c6 (by lia)
 have e2:=Fh (q:=q) (n:=n+1+56) L2 ae
 have k7:lk (z "first") L2=some (.ref (j 1)):=E _ _ (by rfl')
 have k8:lk (z "waiting") L2=some (.ref w):=E _ _ (by rfl')
 have aJ:b.get w=some (.list []):=g7.at (P.at av)
 have aI:g9 (.ref pa) b=some (.ok (.ref b.length) (b.push (.list g.reverse))):=by
  unfold g9
  simp only[aH]
  rw[if_pos (eF (by lia))]
 have ah:bin .Add (b.push (.list g.reverse)) (.ref w) (.ref b.length) (TA q).bO=some (.ok (.ref (b.length+1)) ((b.push (.list g.reverse)).push (.list g.reverse))):=by
  have:=sm (o:=(TA q).bO) (Hp.mE aJ) (Hp.cB b (.list g.reverse)) (eF (by rw[List.length_reverse,List.length_nil];lia))
  rw[Hp.length_push] at this
  exact this
 simp only[k7,k8,Option.map_some,bE,aO,aI,ah,bK] at e2
 have g8:Gr b ((b.push (.list g.reverse)).push (.list g.reverse)):=(Gr.push _ _).trans (Gr.push _ _)
 have aK:((b.push (.list g.reverse)).push (.list g.reverse)).get (b.length+1)=some (.list g.reverse):=by
  have:=Hp.cB (b.push (.list g.reverse)) (.list g.reverse)
  rwa [Hp.length_push] at this
 have aC:b.length+1<((b.push (.list g.reverse)).push (.list g.reverse)).length:=by rw[Hp.length_push,Hp.length_push];lia
 generalize(b.push (.list g.reverse)).push (.list g.reverse)=F at*
 have ag:bP (put (z "waiting") (.ref (b.length+1)) L2) (dI l U.length (b.length+1)):=(E.put (z "waiting") (.ref (b.length+1))).dH _ (by rfl')
 generalize put (z "waiting") (.ref (b.length+1)) L2=L3 at e2 ag
 have aN:lk (z "word") L2=some (.str (z "begin")):=E _ _ (by rfl')
 have e3:=(HB (q:=q) (n:=n+1) (G:=ae) aN).trans e2
 have aa:(run (TA q) (n+92)).ax (bH L) (cT cx) d=some (.ok .next L3 F):=by
  rw[qQ,bJ (n:=n+1+60+30) e,bJ (n:=n+1+59+30) e1,bJ (n:=n+1+88) e3];rfl
 have au:(run (TA q) (n+1+92)).cA (bH L) (eu cx) (cT cx) d=(run (TA q) (n+92)).cA (bH L3) (eu cx) (cT cx) F:=by
  rewrite[ma]
  show lift _ ((run (TA q) (n+92)).ev _ _ _) _=_
  rw[et]
  show dS ((run (TA q) (n+92)).ax (bH L) (cT cx) d) _=_
  rw[aa];rfl
 have B:Gr C F:=P.trans (g7.trans g8)
 have W8:=W4.gr B
 have aT:C.length<=b.length:=Nat.le_trans P.1 g7.1
 have ai:U.length<=C.length:=Nat.le_trans k.le o1.1
 have aS:w<C.length:=(Hp.cj av)
 have r:=wA (q:=q) (m:=U.length) (fa:=U.length) (wa:=b.length+1) (by lia) (Nat.le_refl _) (by lia) (O::ps) K l F L3 [] n (by simp only[List.length_cons];lia) (by simp only[List.length_cons];omega) (by simp only[List.length_cons,List.length_nil];lia) W8 ag ((o1.off of).gr B) (W4.off (by lia) aC) (by
  rw[aj];exact aK) (B.at az) (λe u=>⟨(p e u).1,(p e u).2.1,B.bt W.jA _ _ (p e u).1 (p e u).2.1 (ay _ _ (p e u).1 (p e u).2.1 (p e u).2.2)⟩) (Nat.le_trans ai B.1)
 have k8:Kq U.length al U l F:=(k.trans aP.kq).trans (B.kq ai)
 constructor
 ·intro h
  obtain⟨L4,M,af,ab,i⟩:=r.1 h
  obtain⟨fs,aA,hl⟩:=i.f
  exact⟨U.length,fs,M,af,r1 L4 M af _ (au.trans ab) i.has,aA,by rw[hl];exact Nat.zero_add _,Nat.le_refl _,i.W.wz,k8.trans i.kp.kq,i.of⟩
 ·intro h
  obtain⟨L4,M,ab,x⟩:=r.2 h
  exact⟨M,r2 L4 M (au.trans ab),k8.fx x⟩
structure Lq(al:Nat->Nat)(U:Hp)(al2:Nat->Nat)(τ2:Hp):Prop where
 le:U.length<=τ2.length
 off:∀j,Off al U j->Off al2 τ2 j/\τ2.get j=U.get j
 one:al2 1=al 1
theorem Lq.trans{al U l d c e}(a:Lq al U l d)(b:Lq l d c e):Lq al U c e:=⟨Nat.le_trans a.le b.le,λj o=>by
 obtain⟨h,f⟩:=a.off j o
 obtain⟨i,g⟩:=b.off j h
 exact⟨i,g.trans f⟩,b.one.trans a.one⟩
theorem Kq.lq{al U a b}(k:Kq U.length al U a b):Lq al U a b:=⟨k.le,λj o=>⟨⟨Nat.lt_of_lt_of_le o.1 k.le,λi h e=>o.2 i h (by rw[←e];rw[←k.new i h (by rw[e];exact o.1)])⟩,k.fr j o.1 (Ne.symm (o.2 10 (by decide))) (Ne.symm (o.2 99 (by decide))) (Ne.symm (o.2 100 (by decide)))⟩,k.keep 1 (by decide)⟩
theorem St.lq{t al U a b}(s:St t al U a b):Lq al U a b:=⟨s.le,λj o=>s.off o,s.sy 1 rfl⟩
theorem Gr.lq{al U a}(g:Gr U a):Lq al U al a:=⟨g.1,λj o=>⟨o.gr g,g.2 j o.1⟩,rfl⟩
theorem HV:∀t,t=21\/t=22\/t=23->∀o,(((Ew t o false).set 8 none).all λx=>match x with|some x=>x.al λk=>!Nat.beq k 10|none=>true)=true:=by
 have:([21,22,23].all λt=>[false,true].all λo=>((Ew t o false).set 8 none).all λx=>match x with|some x=>x.al λk=>!Nat.beq k 10|none=>true)=true:=by decide+kernel
 intro t h o
 exact all2 (List.all_eq_true.mp this t (three h)) o
theorem wF:∀t,t=21\/t=22\/t=23->∀o,((Ew t o false).getD 99 none).isNone=true/\((Ew t o false).getD 100 none).isNone=true:=by
 have:([21,22,23].all λt=>[false,true].all λo=>((Ew t o false).getD 99 none).isNone&&((Ew t o false).getD 100 none).isNone)=true:=by decide+kernel
 intro t h o
 exact Bool.and_eq_true_iff.mp (all2 (List.all_eq_true.mp this t (three h)) o)
noncomputable def gU(al:Nat->Nat)(c:Nat)(i:Nat):Nat:=if i=10 then c else al i
def mf(v:V):O:=.dict [(.str (z "parent"),.none),(.str (z "names"),v)]
theorem Wd.back{t K al U f D}(W:Wd t K false al U)(L:U.get (al 10)=some (.dict D))(x:Fx (U.push (.dict D)).length al (U.push (.dict D)) f):
 Wd t K false (gU al U.length) (f.set (al 8) (mf (.ref U.length)))/\Lq al U (gU al U.length) (f.set (al 8) (mf (.ref U.length))):=by
 have P:(U.push (.dict D)).length=U.length+1:=Hp.length_push _ _
 have w:U.length<f.length:=by have:=x.1;lia
 have v:∀j,j<U.length->j≠al 10->j≠al 99->j≠al 100->j≠al 8->(f.set (al 8) (mf (.ref U.length))).get j=U.get j:=λj z B C E F=>by
  rw[Hp.eg (Ne.symm F),x.2 j (by omega) B C E,Hp.eT z]
 have n:∀{i k},i<N->k<N->i≠k->al i≠al k:=λc p h e=>h (W.inj c p e)
 have l:∀i o,i≠8->(Ew t (!Nat.beq (K 3) 0) false)[i]? =some (some o)->o.mp (gU al U.length)=o.mp al:=λi o h e=>by
  have:=List.all_eq_true.mp (HV t W.ts (!Nat.beq (K 3) 0)) (some o) (List.mem_of_getElem? (i:=i) (by rw[List.getElem?_set_ne (Ne.symm h)];exact e))
  refine O.dM (λk p=>?_) this
  rw[Bool.not_eq_true'] at p
  unfold gU
  rw[if_neg (λq=>by rw[q] at p;ext p)]
 refine⟨⟨⟨λi j c d e=>?_,λi c=>?_,λi o e=>?_⟩,λj d y=>?_,W.kv,W.ts⟩,⟨by rw[Hp.length_set];omega,λj o=>⟨⟨by rw[Hp.length_set];have:=o.1;lia,λi c e=>?_⟩,?_⟩,rfl⟩⟩
 ·rw[cS] at c d
  unfold gU at e
  split at e<;>split at e<;>rename_i a b
  ·rw[a,b]
  ·have:=W.lt d;lia
  ·have:=W.lt c;lia
  ·exact W.inj c d e
 ·rw[cS] at c
  rw[Hp.length_set]
  unfold gU
  split
  ·exact w
  ·have:=W.lt c;lia
 ·have c:i<N:=by rw[←cS t (!Nat.beq (K 3) 0) false];exact(List.getElem?_eq_some_iff.mp e).1
  by_cases r:i=8
  ·subst r
   have:o=mf (.ref 10):=by ext e;rfl
   subst this
   show(f.set (al 8) _).get (al 8)=_
   rw[Hp.eN (by have:=W.lt (i:=8) (by decide);lia)];rfl
  rw[l i o r e]
  by_cases g:i=10
  ·subst g
   have u:gU al U.length 10=U.length:=if_pos rfl
   rw[u,Hp.eg (λq=>by have:=W.lt (i:=8) (by decide);lia),x.2 _ (by omega) (λq=>by have:=W.lt (i:=10) (by decide);lia) (λq=>by have:=W.lt (i:=99) (by decide);lia) (λq=>by have:=W.lt (i:=100) (by decide);lia),Hp.cB,←L]
   exact W.im.has 10 o e
  ·have u:gU al U.length i=al i:=if_neg g
   have s:i≠99:=λq=>by
    subst q
    have:=(wF t W.ts (!Nat.beq (K 3) 0)).1
    rw[List.getD_eq_getElem?_getD,e] at this;ext this
   have m:i≠100:=λq=>by
    subst q
    have:=(wF t W.ts (!Nat.beq (K 3) 0)).2
    rw[List.getD_eq_getElem?_getD,e] at this;ext this
   rw[u,v _ (W.lt c) (n c (by decide) g) (n c (by decide) s) (n c (by decide) m) (n c (by decide) r)]
   exact W.im.has i o e
 ·have R:=iN j d
  have c:58+2*num j<N:=by unfold N;lia
  have M:57+2*num j<N:=by unfold N;lia
  unfold gU
  rw[if_neg (by lia),if_neg (by lia),v _ (W.lt c) (n c (by decide) (by lia)) (n c (by decide) (by lia)) (n c (by decide) (by lia)) (n c (by decide) (by lia))]
  exact W.ks j d y
 ·unfold gU at e
  split at e
  ·have:=o.1;lia
  ·exact o.2 i c e
 ·exact v j o.1 (Ne.symm (o.2 10 (by decide))) (Ne.symm (o.2 99 (by decide))) (Ne.symm (o.2 100 (by decide))) (Ne.symm (o.2 8 (by decide)))
theorem Wd.nd(W:Wd t K false al U):∃D,U.get (al 10)=some (.dict D)/\D.length<=20:=by
 have h:(Ew t (!Nat.beq (K 3) 0) false)[10]? =some (some (.dict ((kw.take (bif(!Nat.beq (K 3) 0) then 20 else 19)).map λp=>(int (2*p.1),.ref (58+2*p.1))))):=rfl
 refine⟨_,W.im.has 10 _ h,?_⟩
 rw[List.length_map,List.length_map,List.length_take]
 cases Nat.beq (K 3) 0
 ·exact Nat.min_le_left _ _
 ·exact Nat.le_trans (Nat.min_le_left _ _) (by decide)
theorem HW(v w:V)(G:Hp):(run (TA q) (n+40)).call 1806 [v,w] G=callEnd ((run (TA q) (n+39)).ax (cO [(z "form",v),(z "world",w)]) [vW,jv] G):=by rfl'
theorem HX{T:Tb}{Y:En}{s:Stmt}{G:Hp}{n:Nat}:callEnd ((run T (n+2)).ax Y [s] G)=callEnd ((run T (n+1)).ex Y s G):=by rw[fX]
theorem wG(L:List (Str×V)):fR (TA q) (cO L) (z "SchemeError")=true/\ja (cO L) [z "error"]=true:=⟨by rfl',by rfl'⟩
theorem HY{v:V}{ps:List (Nat×(Nat->Nat))}(W:Wd t K false al U)(w:∀D,oQ q (n+72) t K al (U.push (.dict D)) v ps):
 ((ps.all λe=>!b9 e.1)=true->∃a s b l,(run (TA q) (n+80)).call 1806 [v,.ref (al 1)] U=some (.ok (.ref a) b)/\b.get a=some (.list s)/\s.length=ku ps/\Wd t (me ps K) false l b/\Lq al U l b/\Off l b a)/\
 ((ps.all λe=>!b9 e.1)=false->∃b l,(run (TA q) (n+80)).call 1806 [v,.ref (al 1)] U=some (.exc b)/\Wd t K false l b/\Lq al U l b):=by
 obtain⟨D,O,aa⟩:=W.nd
 have w:=w D
 have y:=FA (q:=q) (n:=n+48) [(z "form",v),(z "world",.ref (al 1))] U
 have k1:lk (z "world") [(z "form",v),(z "world",V.ref (al 1))]=some (.ref (al 1)):=by rfl'
 have B:cF (TA q) (.ty 1) [.ref (al 10)] U=some (.ok (.ref U.length) (U.push (.dict D))):=by
  show ix (.ref (al 10)) U=_
  unfold ix
  simp only[O]
  rw[if_pos (eF (by omega))]
 simp only[k1,Option.map_some,bE,W.root,W.names,B,bK] at y
 have u:bP (put (z "names") (.ref U.length) [(z "form",v),(z "world",.ref (al 1))]) [(z "form",v),(z "world",.ref (al 1)),(z "names",.ref U.length)]:=(bP.refl _).dH _ (by rfl')
 have p:(lk (z "error") (put (z "names") (.ref U.length) [(z "form",v),(z "world",V.ref (al 1))])).isNone=true:=by rfl'
 generalize put (z "names") (.ref U.length) [(z "form",v),(z "world",.ref (al 1))]=L at y u p
 have f:=FD (q:=q) (n:=n+45) L (U.push (.dict D))
 have k2:lk (z "form") L=some v:=u _ _ (by rfl')
 have P:lk (z "world") L=some (.ref (al 1)):=u _ _ (by rfl')
 have k4:lk (z "names") L=some (.ref U.length):=u _ _ (by rfl')
 simp only[k2,P,Option.map_some,bE] at f
 have f:(run (TA q) (n+75)).ex (cO L) oH (U.push (.dict D))=lift (cO L) ((run (TA q) (n+72)).call 1813 [v,.ref (al 1)] (U.push (.dict D))) λv G=>some (.ok (.ret v) L G):=f
 have m:=FC (q:=q) (n:=n+47) L (U.push (.dict D))
 rw[FE] at m
 have m:(run (TA q) (n+77)).ex (cO L) jv (U.push (.dict D))=g_ (TA q) (cO L) (z "SchemeError") (z "world") (z "root") (z "names") (z "names") (z "error") ((run (TA q) (n+75)).ex (cO L) oH (U.push (.dict D))):=m.trans (by rw[fX (n:=n+74)])
 have d:(run (TA q) (n+80)).call 1806 [v,.ref (al 1)] U=callEnd ((run (TA q) (n+77)).ex (cO L) jv (U.push (.dict D))):=by
  rw[HW (n:=n+40)]
  exact(congrArg callEnd (bJ (n:=n+48+30) y)).trans (HX (n:=n+76))
 have g:=Gr.push U (.dict D)
 constructor
 ·intro h
  obtain⟨a,s,b,l,M,hf,hl,_,R,k,o4⟩:=w.1 h
  refine⟨a,s,b,l,?_,hf,hl,R,(g.lq).trans k.lq,o4⟩
  rw[d,m,f,M];rfl
 ·intro h
  obtain⟨c,M,x⟩:=w.2 h
  obtain⟨S,lq⟩:=W.back O x
  refine⟨_,_,?_,S,lq⟩
  rw[d,m,f,M,l_]
  have j:∀{i o},i<N->i≠10->i≠99->i≠100->U.get (al i)=some o->c.get (al i)=some o:=λr T h2 h3 e=>by
   rw[x.2 _ (by rw[Hp.length_push];have:=W.lt r;omega) (λq=>T (W.inj r (by decide) q)) (λq=>h2 (W.inj r (by decide) q)) (λq=>h3 (W.inj r (by decide) q)),Hp.eT (W.lt r)];exact e
  have x0:=j (by decide) (by decide) (by decide) (by decide) (W.at (i:=0) λ_=>rfl)
  have x1:=j (by decide) (by decide) (by decide) (by decide) (W.at (i:=1) λ_=>rfl)
  have x8:=j (by decide) (by decide) (by decide) (by decide) (W.at (i:=8) λ_=>rfl)
  have x9:=j (by decide) (by decide) (by decide) (by decide) (W.at (i:=9) λ_=>rfl)
  have C:name (TA q) ⟨(cO L).sc,(cO L).loc,(cO L).bF⟩ c (z "names")=some (.ref U.length):=by
   have:name (TA q) ⟨(cO L).sc,(cO L).loc,(cO L).bF⟩ c (z "names")=lk (z "names") L:=by rfl'
   rw[this,k4]
  have E:name (TA q) ⟨(cO L).sc,(cO L).loc,(cO L).bF⟩ c (z "world")=some (.ref (al 1)):=by
   have:name (TA q) ⟨(cO L).sc,(cO L).loc,(cO L).bF⟩ c (z "world")=lk (z "world") L:=by rfl'
   rw[this,P]
  have F:dq (TA q) c (.ref (al 1)) (z "root")=some (.ref (al 9)):=jz x1 (by rfl') x0 (by rfl') rfl
  have hs:dQ (TA q) c (.ref (al 9)) (z "names") (.ref U.length)=some (c.set (al 8) (mf (.ref U.length))):=by
   rw[oK x9 (by rfl') x8 (by rw[List.length_map];decide)]
   exact congrArg (λo=>some (c.set (al 8) o)) (by rfl')
  have hc:(!sq (z "error") (z "names")&&!sq (z "error") (z "world")&&fR (TA q) (cO L) (z "SchemeError")&&ja (cO L) [z "error"]&&(lk (z "error") (cO L).loc).isNone)=true:=by
   rw[(wG (q:=q) L).1,(wG (q:=q) L).2,show(lk (z "error") (cO L).loc).isNone=true from p]
   rfl'
  unfold g_
  simp only[C,E,F,hs,hc,if_true]
  rfl
theorem rH{Y:En}{G:Hp}{x:Str}{v:V}{i:Nat}{o:Option V}(h:lk x Y.sc=some .cell)(a:lk x Y.bF=some i)(b:G.get i=some (.cell o)):bZ Y G x v=some (Y,G.set i (.cell (some v))):=by
 rw[jd]
 simp only[h,a,b]
theorem rI{Y:En}{G:Hp}{x:Str}{v:V}(h:lk x Y.sc=some .local):bZ Y G x v=some (⟨Y.sc,put x v Y.loc,Y.bF⟩,G):=by
 rw[jd]
 simp only[h]
theorem ky{T:Tb}{Y:En}{G:Hp}{x:Str}{v:V}{i:Nat}(h:lk x Y.sc=some .cell)(a:lk x Y.bF=some i)(b:G.get i=some (.cell (some v))):name T Y G x=some v:=by
 rw[jc]
 simp only[h,a,b]
def cL(e:Nat×(Nat->Nat)):V:=((D e.1).gv N).mp λi=>e.2 (i-N)
def mh(p:Nat):Bool:=((D p).gv N).al (Nat.ble N)&&(j5 0 ((D p).gb false N)&&((D p).fv N).al λi=>eD (cX p) i||Nat.ble N i)
theorem HZ:(List.range 78).all mh=true:=by decide+kernel
theorem rJ{p:Nat}(h:p<78):mh p=true:=List.all_eq_true.mp HZ p (List.mem_range.mpr h)
theorem rK(a:p<78):((D p).gv N).mp (cat al xs)=cL (p,xs):=by
 have:=rJ a
 unfold mh at this
 rw[Bool.and_eq_true] at this
 exact V.dM (λi h=>dm (Nat.le_of_ble_eq_true h)) this.1
theorem H0{a c}(h:p<78)(s:St t al U a c)(d:t<=23)(b:bR ((D p).gb false N) al xs U):bR ((D p).gb false N) a xs c:=by
 have:=rJ h
 unfold mh at this
 simp only[Bool.and_eq_true] at this
 exact b.st s d (rF (Nat.zero_le _) this.2.1)
theorem H2{a b}(d:p<78)(n:cX p<=t)(s:St t al U a b)(c:t<=23):cK a (p,xs)=cK al (p,xs):=by
 have:=rJ d
 unfold mh at this
 simp only[Bool.and_eq_true] at this
 refine V.dM (λi h=>?_) this.2.2
 rw[Bool.or_eq_true] at h
 rcases h with h|h
 ·have h:=qC n h
  rw[b8 (lQ h c),b8 (lQ h c),s.sy i h]
 ·have:=Nat.le_of_ble_eq_true h
  rw[dm this,dm this]
abbrev dX:=(aE (aL (bW gx))).getD 0 default
theorem H3(L:List (Str×V))(c:Nat):lk (z "world") (bM (ea [] c) (bU dX))=some .cell:=by rfl'
theorem H4{a c0:Nat}{ws:List V}(ae:ws.length<=20)(ab:a≠c0):∀(s:List (Nat×(Nat->Nat))) (L:List (Str×V)) (I:List V) (t:Nat) (al:Nat->Nat) (U:Hp) (n:Nat),200+s.length<=n->ws.drop I.length=s.map cL->I.length+s.length=ws.length->
 Wd t K false al U->Off al U a->Off al U c0->U.get a=some (.list ws)->U.get c0=some (.cell (some (.ref (al 1))))->(∀e∈s,e.1<78/\bR ((D e.1).gb false N) al e.2 U)->
 ∃(v:List (Nat×(Nat->Nat))) (x:Nat) (l:Nat->Nat) (c:Hp),(run (TA q) (n+31)).comp ⟨bM (ea [] c0) (bU dX),L,[(z "world",c0)]⟩ (dj dX) (z "part") [] (.lst a) I.length I U=some (.ok ((v.map (cK l)).reverse++I) c)/\v.map (·.1)=s.map (·.1)/\Wd x K false l c/\t<=x/\
  (∀e∈v,e.1<78/\cX e.1<=x/\bR ((D e.1).fb N) l e.2 c)/\St t al U l c:=by
 intro s
 induction s with
 |nil=>
  intro L I t al U n hn j F W oa oc y E i
  rw[List.length_nil,Nat.add_zero] at F
  refine⟨[],t,al,U,ka ?_,rfl,W,Nat.le_refl _,λe m=>absurd m List.not_mem_nil,St.refl _ _ _⟩
  show(match U.get a with|some (.list xs)=>some xs[I.length]? |_=>none)=_
  rw[y]
  show some ws[I.length]? =_
  rw[List.getElem?_eq_none (by lia)]
 |cons e s ih=>
  intro L I t al U n hn j F W oa oc y E i
  rw[List.length_cons] at hn F
  obtain⟨n,rfl⟩:∃k,n=k+1:=⟨n-1,by omega⟩
  obtain⟨r,b⟩:=i e (.head _)
  have o:I.length<ws.length:=by lia
  rw[List.drop_eq_getElem_cons o,List.map_cons,List.cons.injEq] at j
  obtain⟨hx,j⟩:=j
  have O:cz (TA q) U (.lst a) I.length=some (some (cL e)):=by
   show(match U.get a with|some (.list xs)=>some xs[I.length]? |_=>none)=_
   rw[y]
   show some ws[I.length]? =_
   rw[List.getElem?_eq_getElem o,hx]
  obtain⟨aa,f,ys,hy,W1,b1,w⟩:=vA (q:=q) (n:=n+1+28) (by lia) r W b
  have B:[V.ref 1,(D e.1).gv N].map (V.mp (cat al e.2))=[.ref (al 1),cL e]:=by
   simp only[List.map_cons,List.map_nil,cC,b8 (show 1<N by decide),rK r]
  rw[B] at hy
  have hs:=F_ L c0 U (cL e)
  have m:=F9 (q:=q) (n:=n+1) (put (z "part") (cL e) L) c0 U
  have k1:lk (z "part") (put (z "part") (cL e) L)=some (cL e):=by rw[jx,if_pos rfl]
  have k2:name (TA q) ⟨bM (ea [] c0) (bU dX),put (z "part") (cL e) L,[(z "world",c0)]⟩ U (z "world")=some (.ref (al 1)):=ky (H3 L c0) (by rfl') E
  simp only[k1,k2,Option.map_some,bE] at m
  rw[hy] at m
  obtain⟨R,ga⟩:=w.off oa
  obtain⟨S,gc⟩:=w.off oc
  have p:f 1=al 1:=w.sy 1 rfl
  obtain⟨v,x,l,c,h2,P,W2,u,C,T⟩:=ih (put (z "part") (cL e) L) (cK f (e.1,ys)::I) (max t (cX e.1)) f aa n (by lia) (by rw[List.length_cons];exact j) (by rw[List.length_cons];lia) W1 R S (by rw[ga];exact y) (by rw[gc,p];exact E)
   (λg d=>⟨(i g (.tail _ d)).1,H0 (i g (.tail _ d)).1 w W.jA (i g (.tail _ d)).2⟩)
  have M:cX e.1<=max t (cX e.1):=Nat.le_max_right _ _
  have hv:cK l (e.1,ys)=cK f (e.1,ys):=H2 r M T W1.jA
  refine⟨(e.1,ys)::v,x,l,c,?_,by rw[List.map_cons,List.map_cons,P],W2,Nat.le_trans (Nat.le_max_left _ _) u,λg d=>?_,w.trans T (Nat.le_max_left _ _)⟩
  ·rw[jt (n:=n+1+30) O hs rfl (by lia) m]
   rw[List.length_cons] at h2
   refine h2.trans ?_
   rw[List.map_cons,List.reverse_cons,hv,List.append_assoc];rfl
  ·rcases List.mem_cons.mp d with rfl|h
   ·exact⟨r,Nat.le_trans M u,T.bt W1.jA _ _ r M b1⟩
   ·exact C g h
theorem H5(w v:V)(G:Hp):(run (TA q) (n+40)).call 1915 [w,v] G=match cV [(z "world",w),(z "thing",v)] ⟨dh 1915,[],[(z "world",G.length)]⟩ (G.push (.cell .none)) with
 |some (Y,G)=>callEnd ((run (TA q) (n+39)).ax Y [ki,gx] G)
 |.none=>.none:=by rfl'
theorem H6{a:Nat}{l:List V}{G:Hp}(h:G.get a=some (.list l)):cF (TA q) (.bi 2) [.ref a,.ty 2] G=some (.ok (.bool false) G):=by
 unfold cF fh ey e_
 simp only[h]
 rfl'
theorem isList_list{a:Nat}{l:List V}{G:Hp}(h:G.get a=some (.list l)):cF (TA q) (.bi 2) [.ref a,.ty 0] G=some (.ok (.bool true) G):=by
 unfold cF fh ey e_
 simp only[h]
 rfl'
theorem H7(hn:400<=n){a:Nat}{es:List (Nat×(Nat->Nat))}(aa:es.length<=10)(W:Wd t K false al U)(T:Off al U a)(ha:U.get a=some (.list (es.map cL)))(P:∀e∈es,e.1<78/\bR ((D e.1).gb false N) al e.2 U):
 ∃(r:List (Nat×(Nat->Nat))) (w:Nat) (l:Nat->Nat) (b:Hp) (v:V) (lo:Nat),(run (TA q) n).call 1915 [.ref (al 1),.ref a] U=some (.ok v b)/\r.map (·.1)=es.map (·.1)/\Wd w K false l b/\(∀e∈r,e.1<78/\cX e.1<=w/\bR ((D e.1).fb N) l e.2 b)/\Lq al U l b/\
  Ch lo b v (r.map (cK l))/\(∀a,lo<=a->a<b.length->Off l b a):=by
 obtain⟨n,rfl⟩:∃k,n=k+300+40:=⟨n-340,by omega⟩
 have g0:Gr U (U.push (.cell .none)):=Gr.push _ _
 have C:(U.push (.cell .none)).get U.length=some (.cell .none):=Hp.cB _ _
 have L:cV [(z "world",V.ref (al 1)),(z "thing",V.ref a)] ⟨dh 1915,[],[(z "world",U.length)]⟩ (U.push (.cell .none))=some (ea [(z "thing",.ref a)] U.length,(U.push (.cell .none)).set U.length (.cell (some (.ref (al 1))))):=by
  unfold cV
  rw[rH (by rfl') (by rfl') C]
  show cV [(z "thing",V.ref a)] _ _=_
  unfold cV
  rw[rI (by rfl')]
  rfl
 have h:=H5 (q:=q) (n:=n+300) (.ref (al 1)) (.ref a) U
 rw[L] at h
 have ab:((U.push (.cell .none)).set U.length (.cell (some (.ref (al 1))))).length=U.length+1:=by rw[Hp.length_set,Hp.length_push]
 have E:((U.push (.cell .none)).set U.length (.cell (some (.ref (al 1))))).get U.length=some (.cell (some (.ref (al 1)))):=Hp.eN (by rw[Hp.length_push];lia)
 have m:Gr U ((U.push (.cell .none)).set U.length (.cell (some (.ref (al 1))))):=⟨by lia,λj hj=>by rw[Hp.eg (by omega),Hp.eT hj]⟩
 generalize(U.push (.cell .none)).set U.length (.cell (some (.ref (al 1))))=c at*
 have d:=m.at ha
 have S:lk (z "thing") [(z "thing",V.ref a)]=some (.ref a):=by rfl'
 have u:=F8 (q:=q) (n:=n+308) [(z "thing",.ref a)] U.length c
 simp only[S,Option.map_some,bE,H6 d,bK,di,dw,cond_false] at u
 have u:(run (TA q) (n+308+30)).ex (ea [(z "thing",.ref a)] U.length) ki c=some (.ok .next [(z "thing",.ref a)] c):=u.trans (by rfl')
 have x:=Ga (q:=q) (n:=n+307) [(z "thing",.ref a)] U.length c
 have s:srcOf (TA q) c (.ref a)=some (.ok (.lst a) c):=by
  unfold srcOf
  simp only[d]
 have F:a≠U.length:=λq=>by have:=T.1;lia
 obtain⟨r,w,l,b,o,p,M,ae,f,s2⟩:=H4 (q:=q) (a:=a) (c0:=U.length) (ws:=es.map cL) (by rw[List.length_map];omega) F es [] [] t al c (n+301) (by lia) rfl (by rw[List.length_map,List.length_nil,Nat.zero_add]) (W.gr m) (T.gr m) (W.off (Nat.le_refl _) (by omega)) d E
  (λe i=>⟨(P e i).1,(P e i).2.grow m.fr⟩)
 have o:(run (TA q) (n+307+25)).comp ⟨bM (ea [] U.length) (bU dX),[],[(z "world",U.length)]⟩ (dj dX) (z "part") [] (.lst a) 0 [] c=some (.ok ((r.map (cK l)).reverse++[]) b):=o
 simp only[S,Option.map_some,bE,isList_list d,di,dw,cond_true,s,o,List.append_nil,List.reverse_reverse] at x
 have R:r.length=es.length:=by
  have:=congrArg List.length p
  rwa [List.length_map,List.length_map] at this
 have q3:(b.push (.list (r.map (cK l)))).get b.length=some (.list (r.map (cK l))):=Hp.cB _ _
 have O:Gr b (b.push (.list (r.map (cK l)))):=Gr.push _ _
 generalize b.push (.list (r.map (cK l)))=af at*
 obtain⟨v,g,hy,c4,g4⟩:=G8 (q:=q) (n:=n+307+26) (lo:=b.length) q3 (by rw[List.length_map];lia) O.1 (by lia)
 simp only[hy,bK] at x
 have y:Gr b g:=O.trans g4
 refine⟨r,w,l,g,v,b.length,?_,p,M.gr y,λe i=>⟨(f e i).1,(f e i).2.1,(f e i).2.2.grow y.fr⟩,(m.lq.trans s2.lq).trans y.lq,c4,λa B o=>M.off B o⟩
 rw[h]
 have B:(run (TA q) (n+300+39)).ax (ea [(z "thing",.ref a)] U.length) [ki,gx] c=some (.ok (.ret v) [(z "thing",.ref a)] g):=by
  rw[bJ (n:=n+308+30) u,gP (n:=n+307+30) x]
 exact(congrArg callEnd B).trans rfl
noncomputable def du(i:Nat):Nat:=[1,2,11,19,3,14,20,0,4,5,6,9].getD i 0
theorem H8:∀i,i<12->du i<21:=by decide
def rL(E:List (Option O))(C:Nat)(x:Option (R V)):Bool:=match x with
 |some (.ok (.ref i) G)=>(match G.get i with|some (.inst a b)=>Nat.beq C a|_=>false)&&(Nat.ble E.length G.length&&(dF E.length E&&lN G [] E))
 |_=>false
theorem H9{M al U C x}{y:Option (R V)}(j:Im M al U)(t:M.length=N)
 (u:∀f,Rel f U.get (cJ M) U->(∀i,i<M.length->f i=al i)->RO f U.get (V.mp f) x y)(c:rL M C x=true):∃m d a,y=some (.ok (.ref m) a)/\a.get m=some (.inst C d)/\Fr [] al U a:=by
 unfold rL at c
 obtain⟨i,G,rfl⟩:∃i G,x=some (.ok (.ref i) G):=by
  cases x with
  |none=>exact Mi.nft c
  |some p=>cases p with
   |exc=>exact Mi.nft c
   |ok v G=>cases v<;>first|exact Mi.nft c|exact⟨_,_,rfl⟩
 ·obtain⟨b,c⟩:=Bool.and_eq_true_iff.mp c
  obtain⟨l,c⟩:=Bool.and_eq_true_iff.mp c
  obtain⟨g,s⟩:=Bool.and_eq_true_iff.mp c
  have l:=Nat.le_of_ble_eq_true l
  obtain⟨a,n,r⟩:=u _ (j.rel g) (λi h=>by unfold ext;rw[if_pos h])
  have k:=j.frame g r l s
  generalize e:G.get i=zz at b
  cases zz with
  |none=>ext b
  |some o=>
   cases o<;>try(specialize b;done)
   rename_i q d
   rw[Nat.eq_of_beq_eq_true b]
   exact⟨_,_,a,n,r.has i _ e,k⟩
def wH(k:Nat):List Nat:=[2,3,4,5]++iM [k]
def rM(t i:Nat):Bool:=
 let E:=Ek t false false (wH (du i)) 6 0++[]
 gu E [.ref 3,.str (nm (du i))]&&(js E [] (.ref (12+2*du i)) (RR.call 423 [.ref 3,.str (nm (du i))] (cJ E))&&[false,true].all λo=>dP (Ek t false false (wH (du i)) 6 0) (Ew t o false))
def rN(t:Nat):Bool:=(List.range 12).all λi=>rM t i
theorem H_:rN 21=true:=by decide+kernel
theorem Ia:rN 22=true:=by decide+kernel
theorem Ib:rN 23=true:=by decide+kernel
def wI(k:Nat):List Nat:=[8,9,10]++(iM [k]++nJ [k])
def mi(o:Bool)(i j c C:Nat):Bool:=
 let E:=Ek 21 o false (wI (du i)) j c
 gu E [.ref 9,.ref (12+2*du i)]&&(rL E C (RR.call 847 [.ref 9,.ref (12+2*du i)] (cJ E))&&iO (wI (du i)))
noncomputable def jB(c:Nat):Nat:=bif Nat.beq c 0 then 752 else c
def Ic:Bool:=[false,true].all λo=>((List.range 6).all λj=>(ic j o).all λc=>mi o j j c (jB c))&&(mi o 6 6 0 752&&[7,8,9,10,11].all λi=>mi o i 6 0 710)
theorem Ie:Ic=true:=by decide+kernel
def clsAt(K:Nat->Nat)(i:Nat):Nat:=bif bT 6 i then jB (K i) else bif Nat.beq i 6 then 752 else 710
theorem Ig(m:150<=n)(W:Wd t K false al U){i:Nat}(h:i<12):∃a,(run (TA q) n).call 423 [.ref (al 3),.str (nm (du i))] U=some (.ok (.ref (al (12+2*du i))) a)/\Fr [] al U a:=by
 have c:rM t i=true:=by
  rcases W.ts with e|e|e<;>rw[e]
  ·exact List.all_eq_true.mp H_ i (List.mem_range.mpr h)
  ·exact List.all_eq_true.mp Ia i (List.mem_range.mpr h)
  ·exact List.all_eq_true.mp Ib i (List.mem_range.mpr h)
 unfold rM at c
 simp only[Bool.and_eq_true] at c
 obtain⟨g,j,k⟩:=c
 obtain⟨b,d⟩:=W.le (dg _ _ _ _ _ _) (all2 k _)
 obtain⟨a,y,f⟩:=lU b (bR.nil (xs:=al)) (dg _ _ _ _ _ _) d (by decide) (λf r l=>eE (q:=q) m g f r l) j
 have o:=H8 i h
 simp only[List.map_cons,List.map_nil,cC,nu,b8 (show 3<N by decide),b8 (show 12+2*du i<N by unfold N;lia)] at y
 exact⟨a,y,f⟩
theorem Ih(B:150<=n)(W:Wd t K false al U){i:Nat}(p:i<12):∃m d b,(run (TA q) n).call 847 [.ref (al 9),.ref (al (12+2*du i))] U=some (.ok (.ref m) b)/\b.get m=some (.inst (clsAt K i) d)/\Fr [] al U b:=by
 have C:21<=t:=by rcases W.ts with e|e|e<;>omega
 have F:=all2 Ie (!Nat.beq (K 3) 0)
 simp only[Bool.and_eq_true] at F
 have o:∀{j c},mi (!Nat.beq (K 3) 0) i j c (clsAt K i)=true->(c=0\/(j<6/\c=K j))->∃m d b,(run (TA q) n).call 847 [.ref (al 9),.ref (al (12+2*du i))] U=some (.ok (.ref m) b)/\b.get m=some (.inst (clsAt K i) d)/\Fr [] al U b:=by
  intro j c k y
  unfold mi at k
  simp only[Bool.and_eq_true] at k
  obtain⟨u,v,w⟩:=k
  obtain⟨s,D⟩:=W.ek (.inl rfl) C (.inr w) y
  exact H9 s (dg _ _ _ _ _ _) (λf r x=>by
   have:=eE (q:=q) (al:=al) (a:=847) B u f r (λi p=>x i p)
   exact this) v
 by_cases h:i<6
 ·have z:=W.kind h
  have:=List.all_eq_true.mp (List.all_eq_true.mp F.1 i (List.mem_range.mpr h)) _ z
  have g:clsAt K i=jB (K i):=by unfold clsAt;rw[fH h];rfl
  exact o (by rw[g];exact this) (.inr ⟨h,rfl⟩)
 ·by_cases l:i=6
  ·subst l
   exact o F.2.1 (.inl rfl)
  ·have g:clsAt K i=710:=by
    unfold clsAt
    rw[eJ (by omega)]
    have:Nat.beq i 6=false:=by
     cases e:Nat.beq i 6
     ·rfl
     ·exact absurd (Nat.eq_of_beq_eq_true e) l
    rw[this];rfl
   have:=List.all_eq_true.mp F.2.2 i (by simp only[List.mem_cons,List.not_mem_nil,or_false];lia)
   exact o (by rw[g];exact this) (.inl rfl)
def kS(C:Nat):V:=bif Nat.beq C 710 then .str (z "word") else bif Nat.beq C 773 then .str (z "macro") else .str (z "global")
noncomputable def rO(C:Nat):Prop:=C=710\/C=773\/C=752
theorem Ii(W:Wd t K false al U){i:Nat}(a:i<12):rO (clsAt K i):=by
 unfold clsAt
 by_cases h:i<6
 ·rw[fH h,cond_true]
  rcases W.kv i h with⟨e,b⟩|e|e|⟨e,c⟩<;>rw[e]
  ·exact .inl rfl
  ·exact .inr (.inr rfl)
  ·exact .inr (.inl rfl)
  ·exact .inr (.inr rfl)
 ·rw[eJ (by omega),cond_false]
  cases Nat.beq i 6
  ·exact .inl rfl
  ·exact .inr (.inr rfl)
theorem ir{m d C:Nat}{G:Hp}{D:Nat}{b:Bool}(h:G.get m=some (.inst C d))(c:Nat.ble 8 C=true)(e:jE (.old D)=some D)(f:Tt.tb.eM.get (C*4096+D)=some b):cF (TA q) (.bi 2) [.ref m,.old D] G=some (.ok (.bool b) G):=by
 have i:fh (TA q) G (.ref m) (.old D)=some b:=by
  show ey (TA q) G (.ref m) (.old D)=_
  have a:e_ G (.ref m)=some C:=by
   show(G.get m).bind kF=_
   rw[h]
   show(if Nat.ble 8 C=true then some C else .none)=_
   rw[c];rfl
  unfold ey
  rw[a]
  dsimp only
  rw[e]
  exact f
 show(fh (TA q) G (.ref m) (.old D)).map _=_
 rw[i];rfl
theorem Ij{m d C:Nat}{G:Hp}(h:G.get m=some (.inst C d))(a:rO C):cF (TA q) (.bi 2) [.ref m,.old 710] G=some (.ok (.bool (Nat.beq C 710)) G)/\cF (TA q) (.bi 2) [.ref m,.old 773] G=some (.ok (.bool (Nat.beq C 773)) G)/\cF (TA q) (.bi 2) [.ref m,.old 752] G=some (.ok (.bool (Nat.beq C 752)) G):=by
 rcases a with rfl|rfl|rfl
 ·exact⟨ir h rfl rfl (by rfl'),ir h rfl rfl (by rfl'),ir h rfl rfl (by rfl')⟩
 ·exact⟨ir h rfl rfl (by rfl'),ir h rfl rfl (by rfl'),ir h rfl rfl (by rfl')⟩
 ·exact⟨ir h rfl rfl (by rfl'),ir h rfl rfl (by rfl'),ir h rfl rfl (by rfl')⟩
theorem wJ(W:Wd t K false al U):dZ (TA q) 864 (al 8) (z "find") U=some 847/\dZ (TA q) 461 (al 2) (z "symbol") U=some 423:=by
 have g:=W.at (i:=8) λl=>rfl
 have h:=W.at (i:=2) λl=>rfl
 have e:∃k,Tt.tb.cls 864=some k/\lk (z "find") k.meths=some 847:=⟨_,rfl,by rfl'⟩
 have f:∃k,Tt.tb.cls 461=some k/\lk (z "symbol") k.meths=some 423:=⟨_,rfl,by rfl'⟩
 obtain⟨k,a,b⟩:=e
 obtain⟨j,c,d⟩:=f
 exact⟨kr g a b (by rfl'),kr h c d (by rfl')⟩
abbrev mX:=bW gS
theorem Ik(L:List (Str×V))(c:Nat):lk (z "meaning") (bM (cG [] c) (bU mX))=some .cell:=by rfl'
theorem Il(C:Nat)(h:rO C)(G:Hp):jD (.bool true) [.bool (Nat.beq C 710),.bool (Nat.beq C 773),.bool (Nat.beq C 752)]=some true/\∃k,gF [.bool (Nat.beq C 710),.bool (Nat.beq C 773),.bool (Nat.beq C 752)] [.bool true] G=some (.ok (int k) G)/\[V.str (z "word"),.str (z "macro"),.str (z "global")][k]? =some (kS C)/\k<3:=by
 rcases h with rfl|rfl|rfl
 ·exact⟨by rfl',0,by rfl',by rfl',by decide⟩
 ·exact⟨by rfl',1,by rfl',by rfl',by decide⟩
 ·exact⟨by rfl',2,by rfl',by rfl',by decide⟩
theorem Io(hn:300<=n)(W:Wd t K false al U){i s g:Nat}(hi:i<12){L:List (Str×V)}{C:List V}(hL:bP L [(z "world",.ref (al 1)),(z "found",.ref s),(z "name",.str (nm (du i)))])(of:Off al U s)(oc:Off al U g)(af:s≠g)
 (hf:U.get s=some (.list C))(hc:∃o,U.get g=some (.cell o))(lf:C.length<=50):
 ∃x f,(run (TA q) (n+34)).ax (cG L g) (cU gy) U=some (.ok .next x f)/\bP x [(z "world",.ref (al 1)),(z "found",.ref s)]/\Wd t K false al f/\Off al f s/\Off al f g/\f.get s=some (.list (C++[kS (clsAt K i)]))/\(∃o,f.get g=some (.cell o))/\U.length<=f.length/\∀j,j<U.length->j≠s->j≠g->f.get j=U.get j:=by
 have hC:=Ii W hi
 obtain⟨co,hc⟩:=hc
 have k1:lk (z "world") L=some (.ref (al 1)):=hL _ _ (by rfl')
 have k2:lk (z "name") L=some (.str (nm (du i))):=hL _ _ (by rfl')
 have e0:=Gg (q:=q) (n:=n+3) L g U
 obtain⟨aM,aD,f1⟩:=Ig (q:=q) (n:=n+3+26) (by omega) W hi
 have W1:=W.grow f1
 obtain⟨m,d,f,aF,hm,f2⟩:=Ih (q:=q) (n:=n+3+28) (by omega) W1 hi
 have W2:=W1.grow f2
 have E:Gr U f:=(Gr.of f1).trans (Gr.of f2)
 have aA:bZ (cG L g) f (z "meaning") (.ref m)=some (cG L g,f.set g (.cell (some (.ref m)))):=rH (by rfl') (by rfl') (E.at hc)
 simp only[k1,k2,Option.map_some,bE,W.root,jy (T:=TA q) (W.at (i:=9) λ_=>rfl) (wJ (q:=q) W).1,W.table,jy (T:=TA q) (W.at (i:=3) λ_=>rfl) (wJ (q:=q) W).2,aD,aF,bK,aA,dz] at e0
 have P:=oc.gr E
 have aI:=of.gr E
 have S:bN g f (f.set g (.cell (some (.ref m)))):=bN.set _ _ _
 have aa:(f.set g (.cell (some (.ref m)))).get g=some (.cell (some (.ref m))):=Hp.eN P.1
 have ay:m≠g:=λq=>by rw[q,E.at hc] at hm;ext hm
 have aw:(f.set g (.cell (some (.ref m)))).get m=some (.inst (clsAt K i) d):=by rw[Hp.eg (Ne.symm ay)];exact hm
 have ae:(f.set g (.cell (some (.ref m)))).get s=some (.list C):=by rw[Hp.eg (Ne.symm af)];exact E.at hf
 have W3:=W2.only S P
 have aJ:=S.off aI
 have aG:=S.off P
 have e0:(run (TA q) (n+3+30)).ex (cG L g) rg U=some (.ok .next L (f.set g (.cell (some (.ref m))))):=e0
 generalize f.set g (.cell (some (.ref m)))=l at*
 have e1:=Gi (q:=q) (n:=n+2) L g l
 have aB:(bS [V.old 710,.old 773,.old 752].length&&!([V.old 710,.old 773,.old 752]).isEmpty)=true:=rfl
 have g4:Gr l (l.push (.tup [.old 710,.old 773,.old 752])):=Gr.push _ _
 have ag:(l.push (.tup [.old 710,.old 773,.old 752])).get l.length=some (.tup [.old 710,.old 773,.old 752]):=Hp.cB _ _
 simp only[bE,aB,if_true] at e1
 generalize l.push (.tup [.old 710,.old 773,.old 752])=c at*
 have ai:srcOf (TA q) c (.ref l.length)=some (.ok (.tup (.ref l.length)) c):=by
  unfold srcOf
  simp only[ag]
 have v:∀k,cz (TA q) c (.tup (.ref l.length)) k=some ([V.old 710,.old 773,.old 752][k]?):=λk=>by
  show(match c.get l.length with|some (.tup xs)=>some xs[k]? |_=>none)=_
  rw[ag]
 obtain⟨i1,i2,i3⟩:=Ij (q:=q) (g4.at aw) hC
 have N:∀B,name (TA q) ⟨bM (cG [] g) (bU mX),B,[(z "meaning",g)]⟩ c (z "meaning")=some (.ref m):=λB=>ky (Ik B g) (by rfl') (g4.at aa)
 have w:∀(B:List (Str×V)) (D:Nat) (b:Bool) (n:Nat),cF (TA q) (.bi 2) [.ref m,.old D] c=some (.ok (.bool b) c)->(run (TA q) (n+30)).ev ⟨bM (cG [] g) (bU mX),put (z "word") (.old D) B,[(z "meaning",g)]⟩ (dj mX) c=some (.ok (.bool b) c):=λB D b n hb=>by
  have e:=Gh (q:=q) (n:=n) (put (z "word") (.old D) B) g c
  have k:lk (z "word") (put (z "word") (.old D) B)=some (.old D):=by rw[jx,if_pos rfl]
  simp only[N,k,Option.map_some,bE,hb] at e
  exact e
 have M:(run (TA q) (n+2+29)).comp ⟨bM (cG [] g) (bU mX),[],[(z "meaning",g)]⟩ (dj mX) (z "word") [] (.tup (.ref l.length)) 0 [] c=some (.ok [.bool (Nat.beq (clsAt K i) 752),.bool (Nat.beq (clsAt K i) 773),.bool (Nat.beq (clsAt K i) 710)] c):=by
  rw[jt (n:=n+30) (v 0) (rh [] g c _) rfl (by decide) (w _ _ _ _ i1),
   jt (n:=n+29) (v 1) (rh _ g c _) rfl (by simp) (w _ _ _ (n-1) i2|>λh=>by rwa [show n-1+30=n+29 by omega] at h),
   jt (n:=n+28) (v 2) (rh _ g c _) rfl (by simp) (w _ _ _ (n-2) i3|>λh=>by rwa [show n-2+30=n+28 by omega] at h)]
  exact ka (v 3)
 simp only[ai,bE,M,bK] at e1
 have ah:[V.bool (Nat.beq (clsAt K i) 752),.bool (Nat.beq (clsAt K i) 773),.bool (Nat.beq (clsAt K i) 710)].reverse=[.bool (Nat.beq (clsAt K i) 710),.bool (Nat.beq (clsAt K i) 773),.bool (Nat.beq (clsAt K i) 752)]:=rfl
 rw[ah] at e1
 have g5:Gr c (c.push (.list [.bool (Nat.beq (clsAt K i) 710),.bool (Nat.beq (clsAt K i) 773),.bool (Nat.beq (clsAt K i) 752)])):=Gr.push _ _
 have O:(c.push (.list [.bool (Nat.beq (clsAt K i) 710),.bool (Nat.beq (clsAt K i) 773),.bool (Nat.beq (clsAt K i) 752)])).get c.length=some (.list [.bool (Nat.beq (clsAt K i) 710),.bool (Nat.beq (clsAt K i) 773),.bool (Nat.beq (clsAt K i) 752)]):=Hp.cB _ _
 generalize c.push (.list [.bool (Nat.beq (clsAt K i) 710),.bool (Nat.beq (clsAt K i) 773),.bool (Nat.beq (clsAt K i) 752)])=p at*
 have y:bP (put (z "kinds") (.ref c.length) L) [(z "world",.ref (al 1)),(z "found",.ref s),(z "kinds",.ref c.length)]:=(hL.put (z "kinds") (.ref c.length)).dH _ (by rfl')
 generalize put (z "kinds") (.ref c.length) L=x at e1 y
 have F:=g4.trans g5
 have e2:=Gj (q:=q) (n:=n+1) x g p
 have k3:lk (z "found") x=some (.ref s):=y _ _ (by rfl')
 have k4:lk (z "kinds") x=some (.ref c.length):=y _ _ (by rfl')
 obtain⟨au,k,av,hk,aK⟩:=Il (clsAt K i) hC (p.push (.list [.str (z "word"),.str (z "macro"),.str (z "global")]))
 have ab:cmp (TA q) p .In (.bool true) (.ref c.length)=some true:=by
  show(p.get c.length).bind (kD (.bool true))=_
  rw[O]
  exact au
 have aC:bS [V.str (z "word"),.str (z "macro"),.str (z "global")].length=true:=rfl
 have g6:Gr p (p.push (.list [.str (z "word"),.str (z "macro"),.str (z "global")])):=Gr.push _ _
 have az:(p.push (.list [.str (z "word"),.str (z "macro"),.str (z "global")])).get p.length=some (.list [.str (z "word"),.str (z "macro"),.str (z "global")]):=Hp.cB _ _
 generalize ak:p.push (.list [.str (z "word"),.str (z "macro"),.str (z "global")])=r at*
 have aq:cf (TA q) (.ref c.length) 3 [.bool true] r=some (.ok (int k) r):=by
  unfold cf
  simp only[g6.at O]
  exact av
 have aj:sub (TA q) r (.ref p.length) (int k)=some (kS (clsAt K i)):=rA az (by lia) hk
 have ar:r.get s=some (.list C):=g6.at (F.at ae)
 have ao:cf (TA q) (.ref s) 1 [kS (clsAt K i)] r=some (.ok .none (r.set s (.list (C++[kS (clsAt K i)])))):=append_at ar (by omega)
 simp only[k3,k4,Option.map_some,bE,ik (F.at ae) (m:=1) (a:=z "append") (by rfl') (.inl rfl),ab,di,dw,cond_true,aC,if_true,ak,ik (g6.at O) (m:=3) (a:=z "index") (by rfl') (.inr (.inr rfl)),aq,aj,ao,bK] at e2
 have e2:(run (TA q) (n+1+30)).ex (cG x g) rj p=some (.ok .next x (r.set s (.list (C++[kS (clsAt K i)])))):=e2
 have u:=F.trans g6
 have o7:bN s r (r.set s (.list (C++[kS (clsAt K i)]))):=bN.set _ _ _
 have R:=aJ.gr u
 have aH:=aG.gr u
 refine⟨x,_,?_,y.dH _ (by rfl'),(W3.gr u).only o7 R,o7.off R,o7.off aH,Hp.eN R.1,⟨_,by rw[Hp.eg af];exact u.at aa⟩,Nat.le_trans E.1 (Nat.le_trans S.1 (Nat.le_trans u.1 o7.1)),λj hj h1 h2=>?_⟩
 ·rw[Gk,bJ (n:=n+3+30) e0,bJ (n:=n+2+30) e1,bJ (n:=n+1+30) e2];rfl
 ·have l1:=E.1
  have l2:=S.1
  rw[o7.2 j (by have:=u.1;lia) h1,u.2 j (by omega),S.2 j (by omega) h2,E.2 j hj]
def gA:List V:=(List.range 12).map λi=>.str (nm (du i))
def cP(K:Nat->Nat):List V:=(List.range 12).map λi=>kS (clsAt K i)
theorem Ip{i:Nat}(h:i<12):gA[i]? =some (.str (nm (du i))):=by
 unfold gA
 rw[List.getElem?_map,List.getElem?_range h];rfl
theorem Iq{fa c0 ta:Nat}(E:fa≠c0)(h1:ta≠fa)(h2:ta≠c0):∀(r i:Nat) (L:List (Str×V)) (U:Hp) (n:Nat),r+i=12->300+r<=n->Wd t K false al U->bP L [(z "world",.ref (al 1)),(z "found",.ref fa)]->Off al U fa->Off al U c0->
 U.get fa=some (.list ((List.range i).map λi=>kS (clsAt K i)))->(∃o,U.get c0=some (.cell o))->U.get ta=some (.tup gA)->
 ∃p c,(run (TA q) (n+35)).fr (cG L c0) (z "name") (cU gy) (.tup (.ref ta)) i U=some (.ok .next p c)/\bP p [(z "found",.ref fa)]/\Wd t K false al c/\c.get fa=some (.list (cP K))/\U.length<=c.length/\∀j,j<U.length->j≠fa->j≠c0->c.get j=U.get j:=by
 intro r
 induction r with
 |zero=>
  intro i L U n hi hn W s R P y O m
  obtain rfl:i=12:=by lia
  refine⟨L,U,og ?_,s.dH _ (by rfl'),W,y,Nat.le_refl _,λ_ _ _ _=>rfl⟩
  show(match U.get ta with|some (.tup xs)=>some xs[12]? |_=>none)=_
  rw[m];rfl
 |succ r ih=>
  intro i L U n hi hn W s R P y O m
  obtain⟨n,rfl⟩:∃k,n=k+1:=⟨n-1,by omega⟩
  have h:i<12:=by lia
  have g:cz (TA q) U (.tup (.ref ta)) i=some (some (.str (nm (du i)))):=by
   show(match U.get ta with|some (.tup xs)=>some xs[i]? |_=>none)=_
   rw[m]
   show some (gA[i]?)=_
   rw[Ip h]
  have u:bP (put (z "name") (.str (nm (du i))) L) [(z "world",.ref (al 1)),(z "found",.ref fa),(z "name",.str (nm (du i)))]:=(s.put (z "name") (.str (nm (du i)))).dH _ (by rfl')
  obtain⟨p,c,e,v,T,M,F,B,x,D,f⟩:=Io (q:=q) (n:=n+1) (by lia) W h u R P E y O (by rw[List.length_map,List.length_range];omega)
  obtain⟨S,N,e3,w,W3,C,l,d⟩:=ih (i+1) p c n (by lia) (by lia) T v M F (by rw[B,List.range_succ,List.map_append];rfl) x (by rw[f ta (Hp.cj m) h1 h2];exact m)
  refine⟨S,N,?_,w,W3,C,Nat.le_trans D l,λj hj a b=>by rw[d j (by omega) a b,f j hj a b]⟩
  rw[oh (n:=n+35) g (Gf L c0 U _) e]
  exact e3
theorem Ir(w:V)(G:Hp):(run (TA q) (n+40)).call 1927 [w] G=callEnd ((run (TA q) (n+39)).ax (cG [(z "world",w)] G.length) [rd,gy,rl] (G.push (.cell .none))):=by rfl'
theorem names6:(TA q).bO 1898=some [.str (z "if"),.str (z "lambda"),.str (z "let"),.str (z "own"),.str (z "set!"),.str (z "cond")]:=by rfl'
theorem names12:[V.str (z "if"),.str (z "lambda"),.str (z "let"),.str (z "own"),.str (z "set!"),.str (z "cond")]++[V.str (z "other"),.str (z "quote"),.str (z "begin"),.str (z "define"),.str (z "define-syntax"),.str (z "and")]=gA:=by rfl'
theorem Iu(hn:400<=n)(W:Wd t K false al U):∃r b,(run (TA q) n).call 1927 [.ref (al 1)] U=some (.ok (.ref r) b)/\b.get r=some (.list (cP K))/\Gr U b/\U.length<=r:=by
 obtain⟨n,rfl⟩:∃k,n=k+360+40:=⟨n-400,by omega⟩
 have O:=Gr.push U (.cell .none)
 have v:(U.push (.cell .none)).get U.length=some (.cell .none):=Hp.cB _ _
 have aa:(U.push (.cell .none)).length=U.length+1:=Hp.length_push _ _
 have h:=Ir (q:=q) (n:=n+360) (.ref (al 1)) U
 generalize U.push (.cell .none)=a at*
 have p:=Gb (q:=q) (n:=n+368) [(z "world",.ref (al 1))] U.length a
 have R:bS ([]:List V).length=true:=rfl
 simp only[bE,R,if_true,bK] at p
 have F:bP (put (z "found") (.ref a.length) [(z "world",.ref (al 1))]) [(z "world",.ref (al 1)),(z "found",.ref a.length)]:=(bP.refl _).dH _ (by rfl')
 generalize put (z "found") (.ref a.length) [(z "world",.ref (al 1))]=L at p F
 have P:=Gr.push a (.list [])
 have w:(a.push (.list [])).get a.length=some (.list []):=Hp.cB _ _
 have ab:(a.push (.list [])).length=a.length+1:=Hp.length_push _ _
 generalize a.push (.list [])=b at*
 have f:=Ge (q:=q) (n:=n+367) L U.length b
 have T:(bS [V.str (z "other"),.str (z "quote"),.str (z "begin"),.str (z "define"),.str (z "define-syntax"),.str (z "and")].length&&!([V.str (z "other"),.str (z "quote"),.str (z "begin"),.str (z "define"),.str (z "define-syntax"),.str (z "and")]).isEmpty)=true:=rfl
 simp only[bE,T,if_true] at f
 have D:=Gr.push b (.tup [.str (z "other"),.str (z "quote"),.str (z "begin"),.str (z "define"),.str (z "define-syntax"),.str (z "and")])
 have B:(b.push (.tup [.str (z "other"),.str (z "quote"),.str (z "begin"),.str (z "define"),.str (z "define-syntax"),.str (z "and")])).get b.length=some (.tup [.str (z "other"),.str (z "quote"),.str (z "begin"),.str (z "define"),.str (z "define-syntax"),.str (z "and")]):=Hp.cB _ _
 have ae:(b.push (.tup [.str (z "other"),.str (z "quote"),.str (z "begin"),.str (z "define"),.str (z "define-syntax"),.str (z "and")])).length=b.length+1:=Hp.length_push _ _
 generalize b.push (.tup [.str (z "other"),.str (z "quote"),.str (z "begin"),.str (z "define"),.str (z "define-syntax"),.str (z "and")])=c at*
 have l:bin .Add c (.old 1898) (.ref b.length) (TA q).bO=some (.ok (.ref c.length) (c.push (.tup gA))):=by
  rw[←names12]
  exact xk names6 B rfl
 have E:=Gr.push c (.tup gA)
 have m:(c.push (.tup gA)).get c.length=some (.tup gA):=Hp.cB _ _
 have af:(c.push (.tup gA)).length=c.length+1:=Hp.length_push _ _
 generalize M:c.push (.tup gA)=e at*
 have s:srcOf (TA q) e (.ref c.length)=some (.ok (.tup (.ref c.length)) e):=by
  unfold srcOf
  simp only[m]
 simp only[l,bE,s,bK] at f
 have i:=P.trans (D.trans E)
 have g:=O.trans i
 obtain⟨o,d,N,u,W5,x,ag,y⟩:=Iq (q:=q) (t:=t) (K:=K) (al:=al) (fa:=a.length) (c0:=U.length) (ta:=c.length) (by lia) (by lia) (by lia) 12 0 L e (n+361) (by lia) (by lia) (W.gr g) F (W.off (by lia) (by lia)) (W.off (by lia) (by lia)) ((D.trans E).at w) ⟨_,i.at v⟩ m
 have f:(run (TA q) (n+367+30)).ex (cG L U.length) gy b=some (.ok .next o d):=f.trans N
 have C:=Gl (q:=q) (n:=n+366) o U.length d
 have k1:lk (z "found") o=some (.ref a.length):=u _ _ (by rfl')
 simp only[k1,Option.map_some,bK] at C
 refine⟨a.length,d,?_,x,⟨by have:=g.1;omega,λj hj=>by rw[y j (by have:=g.1;omega) (by lia) (by omega),g.2 j hj]⟩,by lia⟩
 rw[h]
 have S:(run (TA q) (n+360+39)).ax (cG [(z "world",.ref (al 1))] U.length) [rd,gy,rl] a=some (.ok (.ret (.ref a.length)) o d):=by
  rw[bJ (n:=n+368+30) p,bJ (n:=n+367+30) f,gP (n:=n+366+30) C]
 exact(congrArg callEnd S).trans rfl
noncomputable abbrev Pt:Type:=Nat×(Nat->Nat)
structure PB(m:Nat)(al:Nat->Nat)(U:Hp)(e:Pt):Prop where
 p:e.1<78
 b:bR ((D e.1).gb false N) al e.2 U
 t:U.get (e.2 (fB e.1))=some (.tup (cL e::ju e.1))
 lo:∀i,i<=fB e.1->m<=e.2 i
 hi:∀i,i<=fB e.1->e.2 i<U.length
def b_(e:Pt):V:=.ref (e.2 (fB e.1))
theorem PB.only{m al d U a e}(h:PB m al U e)(o:bN d U a)(f:d<m):PB m al a e:=by
 refine⟨h.p,h.b.only o λi c=>?_,?_,h.lo,λi c=>Nat.lt_of_lt_of_le (h.hi i c) o.1⟩
 ·have:=h.lo i (Nat.le_of_lt c);lia
 ·rw[o.2 _ (h.hi _ (Nat.le_refl _)) (by have:=h.lo _ (Nat.le_refl _);lia)];exact h.t
theorem Iv(p:Nat)(f:Nat->Nat):(ju p).map (V.mp f)=ju p:=rfl
theorem Iw{al xs U p m}(c:p<78)(b:bR (ie p) al xs U)(d:∀i,i<(ie p).length->m<=xs i):PB m al U (p,xs):=by
 have l:(ie p).length=fB p+1:=by unfold ie fB;simp
 refine⟨c,?_,?_,λi h=>d i (by rw[l];exact Nat.lt_succ_of_le h),λi h=>b.lt i (by rw[l];exact Nat.lt_succ_of_le h)⟩
 ·refine⟨λi j h a e=>b.inj i j (by rw[l];exact Nat.lt_succ_of_lt h) (by rw[l];exact Nat.lt_succ_of_lt a) e,λi h=>b.lt i (by rw[l];exact Nat.lt_succ_of_lt h),λi j h a=>b.jo i j h (by rw[l];exact Nat.lt_succ_of_lt a),λi o e=>b.has i o ?_⟩
  unfold ie
  rw[List.getElem?_append_left (List.getElem?_eq_some_iff.mp e).1];exact e
 ·have:=b.has (fB p) (.tup ((D p).gv N::ju p)) (by
   unfold ie fB
   rw[List.getElem?_append_right (Nat.le_refl _),Nat.sub_self];rfl)
  rw[this]
  show some (O.tup (((D p).gv N).mp (cat al xs)::(ju p).map _))=_
  rw[rK c,Iv]
theorem wK(k:Nat)(h:k<100):gG [.int (.ofNat 1+.ofNat k)]=some (.cY 0 1 (1+k)):=by
 show(if inR (.ofNat (1+k))=true then some (Src.cY 0 1 (1+k)) else none)=_
 rw[if_pos (show inR (.ofNat (1+k))=true from eF (by lia))]
theorem wL{q:Option (Nat×List V)}{G:Hp}{m i:Nat}(h:i<m):∃v,cz (TA q) G (.cY 0 1 m) i=some (some v):=by
 refine⟨.int (0+1*.ofNat i),?_⟩
 show some (bif Nat.ble (Nat.succ i) m then _ else none)=_
 rw[Nat.ble_eq_true_of_le h];rfl
abbrev pX:=bW gz
theorem Iy(c:Nat):lk (z "deck") (bM (a_ [] c) (bU pX))=some .cell:=by rfl'
theorem Iz{d c m k:Nat}(hd:d<m)(E:c≠d):∀(r i:Nat) (L:List (Str×V)) (b:List Pt) (l:List Nat) (U:Hp) (n:Nat),r+i=k->300+r<=n->b.length=i->k<=10->Wd t K false al U->Off al U d->Off al U c->DK U d l->l.length<=14->U.get c=some (.cell (some (.ref d)))->m<=U.length->(∀e∈b,PB m al U e)->
 ∃(s:List Pt) (x:List Nat) (a:Hp),(run (TA q) (n+31)).comp ⟨bM (a_ [] c) (bU pX),L,[(z "deck",c)]⟩ (dj pX) (z "turn") [] (.cY 0 1 k) i (b.map b_).reverse U=some (.ok (s.map b_).reverse a)/\s.length=k/\DK a d x/\x.length<=14/\bN d U a/\∀e∈s,PB m al a e:=by
 intro r
 induction r with
 |zero=>
  intro i L b l U n F hn f hk W y S h M D P B
  obtain rfl:i=k:=by lia
  exact⟨b,l,U,ka rC,f,h,M,bN.refl _ _,B⟩
 |succ r ih=>
  intro i L b l U n F hn f hk W y S h M D P B
  obtain⟨n,rfl⟩:∃k,n=k+1:=⟨n-1,by omega⟩
  obtain⟨v,u⟩:=wL (q:=q) (G:=U) (m:=k) (i:=i) (by lia)
  obtain⟨p,l1,w,xs,hy,hp,h1,N,o,b1,lo⟩:=Fd (q:=q) (n:=n+1+28) (W.im.none (cS _ _ _)) y h M (by lia)
  have hs:=Gv L c U v
  have g:=Gu (q:=q) (n:=n+1) (put (z "turn") v L) c U
  have k2:name (TA q) ⟨bM (a_ [] c) (bU pX),put (z "turn") v L,[(z "deck",c)]⟩ U (z "deck")=some (.ref d):=ky (Iy c) (by rfl') D
  simp only[k2,Option.map_some,bE,hy] at g
  have R:PB m al w (p,xs):=Iw hp b1 λi F=>Nat.le_trans P (lo i F)
  obtain⟨s,x,a,T,j,h2,O,o2,C⟩:=ih (i+1) (put (z "turn") v L) (b++[(p,xs)]) l1 w n (by lia) (by lia) (by simp[f]) hk (W.only o y) (o.off y) (o.off S) h1 N (by rw[o.2 _ S.1 E];exact D) (Nat.le_trans P o.1) (λe f=>by
   rcases List.mem_append.mp f with h|h
   ·exact(B e h).only o hd
   ·rw[List.mem_singleton.mp h];exact R)
  refine⟨s,x,a,?_,j,h2,O,o.trans o2,C⟩
  rw[jt (n:=n+1+30) u hs rfl (by rw[List.length_reverse,List.length_map,f];lia) g]
  rw[List.map_append,List.reverse_append] at T
  exact T
theorem IA{d c m:Nat}{L:List (Str×V)}{l:List Nat}(hn:400<=n)(W:Wd t K false al U)(p:Off al U d)(C:Off al U c)(h:DK U d l)(M:l.length<=14)(j:U.get c=some (.cell (some (.ref d))))(N:m=U.length):
 ∃(s:List Pt) (y:List Nat) (a:Hp) (pc:Nat),(run (TA q) (n+30)).ex (a_ L c) gz U=some (.ok .next (put (z "parts") (.ref pc) L) a)/\1<=s.length/\s.length<=3/\DK a d y/\y.length<=14/\bN d U a/\(∀e∈s,PB m al a e)/\a.get pc=some (.list (s.map b_))/\Off al a pc/\m<=pc:=by
 subst N
 have g:c≠d:=λq=>by rw[q,show U.get d=_ from h] at j;ext j
 have e:=Gw (q:=q) (n:=n) L c U
 have P:name (TA q) (a_ L c) U (z "deck")=some (.ref d):=ky (by rfl') (by rfl') j
 obtain⟨k,R,a,O,T,D,u,o⟩:=kb (q:=q) (m:=3) (n:=n+25) (by lia) (by lia) M h (by omega)
 have f:bin .Add a (int 1) (int k) (TA q).bO=some (.ok (.int (.ofNat 1+.ofNat k)) a):=rfl
 obtain⟨s,S,b,i,x,E,v,w,F⟩:=Iz (q:=q) (t:=t) (K:=K) (al:=al) (m:=U.length) (k:=1+k) p.1 g (1+k) 0 [] [] R a (n-2) (by lia) (by lia) rfl (by lia) (W.only o p) (o.off p) (o.off C) D u (by rw[o.2 _ C.1 g];exact j) o.1 (λe r=>absurd r List.not_mem_nil)
 have i:(run (TA q) (n+29)).comp ⟨bM (a_ [] c) (bU pX),[],[(z "deck",c)]⟩ (dj pX) (z "turn") [] (.cY 0 1 (1+k)) 0 [] a=some (.ok (s.map b_).reverse b):=by
  rw[show n-2+31=n+29 by omega] at i;exact i
 simp only[P,Option.map_some,bE,O,f,wK k (by lia),i,List.reverse_reverse,bK] at e
 have B:=Gr.push b (.list (s.map b_))
 refine⟨s,S,_,b.length,e,by lia,by lia,E.push _,v,(o.trans w).gr B,λe r=>(F e r).only (B.only d) p.1,Hp.cB _ _,W.off (Nat.le_trans o.1 w.1) (by rw[Hp.length_push];lia),Nat.le_trans o.1 w.1⟩
noncomputable def TP(U:Hp)(e:Pt):Prop:=U.get (e.2 (fB e.1))=some (.tup (cL e::ju e.1))
theorem rP{S:List (Str×NameKind)}{C:List (Str×Nat)}{x:Str}{elt:Expr}{ifs:List Expr}{a:List Pt}{f:Nat}(b:Pt->Bool)(y:Pt->V)(z:U.get f=some (.list (a.map b_)))
 (o:∀L v,bZ ⟨S,L,C⟩ U x v=some (⟨S,put x v L,C⟩,U))
 (r:∀e∈a,∀L n,(run (TA q) (n+30)).tests ⟨S,put x (b_ e) L,C⟩ ifs U=some (.ok (b e) U))
 (w:∀e∈a,∀L n,(run (TA q) (n+30)).ev ⟨S,put x (b_ e) L,C⟩ elt U=some (.ok (y e) U)):
 ∀(s p:List Pt) (L:List (Str×V)) (I:List V) (n:Nat),a=p++s->s.length<=n->I.length+s.length<4096->
 (run (TA q) (n+31)).comp ⟨S,L,C⟩ elt x ifs (.lst f) p.length I U=some (.ok (((s.filter b).map y).reverse++I) U):=by
 intro s
 have l:∀k,cz (TA q) U (.lst f) k=some ((a.map b_)[k]?):=λk=>by
  show(match U.get f with|some (.list xs)=>some xs[k]? |_=>none)=_
  rw[z]
 induction s with
 |nil=>
  intro p L I n c i j
  rw[ka]
  ·rfl
  ·rw[l,c,List.append_nil,List.getElem?_eq_none (by rw[List.length_map];exact Nat.le_refl _)]
 |cons e s u=>
  intro p L I n c i j
  rw[List.length_cons] at i j
  obtain⟨n,rfl⟩:∃k,n=k+1:=⟨n-1,by omega⟩
  have t:cz (TA q) U (.lst f) p.length=some (some (b_ e)):=by
   rw[l,c,List.map_append,List.getElem?_append_right (by rw[List.length_map];exact Nat.le_refl _),List.length_map,Nat.sub_self];rfl
  have m:e∈a:=by rw[c];simp
  have d:a=(p++[e])++s:=by rw[c,List.append_assoc];rfl
  have h:(p++[e]).length=p.length+1:=by simp
  cases g:b e with
  |true=>
   have:=u (p++[e]) (put x (b_ e) L) (y e::I) n d (by omega) (by rw[List.length_cons];omega)
   rw[h] at this
   rw[jt (n:=n+1+30) t (o L _) (g▸r e m L (n+1)) (by omega) (w e m L (n+1)),List.filter_cons_of_pos g]
   refine this.trans ?_
   rw[List.map_cons,List.reverse_cons,List.append_assoc];rfl
  |false=>
   have:=u (p++[e]) (put x (b_ e) L) I n d (by omega) (by lia)
   rw[h] at this
   rw[EG (n:=n+1+30) t (o L _) (g▸r e m L (n+1)),List.filter_cons_of_neg (by rw[g];decide)]
   exact this
theorem mj{e:Pt}(h:TP U e):sub (TA q) U (b_ e) (int 0)=some (cL e)/\sub (TA q) U (b_ e) (int 1)=some (.str (bif Nat.beq (cR e.1) 2 then z "" else nm (num (cu e.1))))/\sub (TA q) U (b_ e) (int 2)=some (.bool (Nat.beq (cR e.1) 1))/\sub (TA q) U (b_ e) (int 3)=some (.bool (b9 e.1)):=
 ⟨oN h (by decide) rfl,oN h (by decide) rfl,oN h (by decide) rfl,oN h (by decide) rfl⟩
theorem oV(x:Str)(v:V)(L:List (Str×V)):lk x (put x v L)=some v:=by rw[jx,if_pos rfl]
abbrev oW:=aR (aR (bW gT))
abbrev kz:=aL ((aE (bW fE)).getD 0 default)
abbrev kA:=(aE (aR ((aE ((aE (bW eX)).getD 1 default)).getD 1 default))).getD 0 default
theorem IB{c0 p:Nat}{s:List Pt}(c:U.get p=some (.list (s.map b_)))(t:∀e∈s,TP U e)(l:s.length<=n)(b:s.length<4000):(run (TA q) (n+31)).comp ⟨bM (a_ [] c0) (bU oW),[],[(z "deck",c0)]⟩ (dj oW) (z "part") [] (.lst p) 0 [] U=some (.ok (s.map cL).reverse U):=by
 have:=rP (q:=q) (S:=bM (a_ [] c0) (bU oW)) (C:=[(z "deck",c0)]) (x:=z "part") (elt:=dj oW) (ifs:=[]) (λd=>true) cL c (λL v=>Gz L c0 U v) (λe h L n=>rfl) (λe h L n=>by
  have a:=Gy (q:=q) (n:=n) (put (z "part") (b_ e) L) c0 U
  simp only[oV,Option.map_some,bE,(mj (q:=q) (t e h)).1] at a
  exact a) s [] [] [] n rfl l (by simp only[List.length_nil];lia)
 rw[List.filter_eq_self.mpr (λd f=>rfl),List.append_nil] at this
 exact this
theorem IC{c0 p:Nat}{s:List Pt}(c:U.get p=some (.list (s.map b_)))(t:∀e∈s,TP U e)(l:s.length<=n)(b:s.length<4000):(run (TA q) (n+31)).comp ⟨bM (a_ [] c0) (bU kz),[],[(z "deck",c0)]⟩ (dj kz) (z "part") (iQ kz) (.lst p) 0 [] U=some (.ok ((s.filter λe=>b9 e.1).map λd=>int 1).reverse U):=by
 have:=rP (q:=q) (S:=bM (a_ [] c0) (bU kz)) (C:=[(z "deck",c0)]) (x:=z "part") (elt:=dj kz) (ifs:=iQ kz) (λe=>b9 e.1) (λd=>int 1) c (λL v=>GD L c0 U v) (λe h L n=>by
  have a:=GC (q:=q) (n:=n) (put (z "part") (b_ e) L) c0 U
  simp only[oV,Option.map_some,bE,(mj (q:=q) (t e h)).2.2.2,di] at a
  exact a) (λe h L n=>GB (q:=q) (n:=n) (put (z "part") (b_ e) L) c0 U) s [] [] [] n rfl l (by simp only[List.length_nil];lia)
 rw[List.append_nil] at this
 exact this
theorem ID{c0 p:Nat}{s:List Pt}(c:U.get p=some (.list (s.map b_)))(t:∀e∈s,TP U e)(l:s.length<=n)(b:s.length<4000):(run (TA q) (n+31)).comp ⟨bM (a_ [] c0) (bU kA),[],[(z "deck",c0)]⟩ (dj kA) (z "part") (iQ kA) (.lst p) 0 [] U=some (.ok ((s.filter λe=>!Nat.beq (cR e.1) 1).map λd=>int 1).reverse U):=by
 have:=rP (q:=q) (S:=bM (a_ [] c0) (bU kA)) (C:=[(z "deck",c0)]) (x:=z "part") (elt:=dj kA) (ifs:=iQ kA) (λe=>!Nat.beq (cR e.1) 1) (λd=>int 1) c (λL v=>GV L c0 U v) (λe h L n=>by
  have a:=GU (q:=q) (n:=n) (put (z "part") (b_ e) L) c0 U
  simp only[oV,Option.map_some,bE,(mj (q:=q) (t e h)).2.2.1,di] at a
  exact a) (λe h L n=>GS (q:=q) (n:=n) (put (z "part") (b_ e) L) c0 U) s [] [] [] n rfl l (by simp only[List.length_nil];lia)
 rw[List.append_nil] at this
 exact this
theorem IE{d g r:Nat}{L:List (Str×V)}{l:List Nat}{s:List Pt}(K:400<=n)(h:DK U d l)(o:l.length<=14)(v:U.get g=some (.cell (some (.ref d))))(u:lk (z "parts") L=some (.ref r))(x:U.get r=some (.list (s.map b_)))(w:s.length<=3):
 ∃b p a,(run (TA q) (n+30)).ex (a_ L g) rt U=some (.ok .next (put (z "is_alone") (.bool b) L) a)/\(b=true->s.length=1)/\DK a d p/\p.length<=14/\bN d U a:=by
 have e:=Gx (q:=q) (n:=n) L g U
 have C:name (TA q) (a_ L g) U (z "deck")=some (.ref d):=ky (by rfl') (by rfl') v
 have f:(s.map b_).length=s.length:=List.length_map _
 simp only[u,Option.map_some,bE,il (T:=TA q) x (show(s.map b_).length<4096 by lia),f,md,di,dw] at e
 cases c:Nat.beq s.length 1 with
 |false=>
  have i:cmp (TA q) U .Eq (int s.length) (int 1)=some false:=by rw[md,c]
  simp only[c,cond_false,bK] at e
  exact⟨false,l,U,e,λh=>(by ext h),h,o,bN.refl _ _⟩
 |true=>
  have i:cmp (TA q) U .Eq (int s.length) (int 1)=some true:=by rw[md,c]
  obtain⟨k,D,a,y,F,t,j,E⟩:=kb (q:=q) (m:=2) (n:=n+23) (by lia) (by lia) o h (by omega)
  have B:cmp (TA q) a .Eq (int k) (int 0)=some (Nat.beq k 0):=md
  simp only[c,C,y,B,Option.map_some,bE,di,dw,cond_true,bK] at e
  exact⟨Nat.beq k 0,D,a,e,λM=>Nat.eq_of_beq_eq_true c,t,j,E⟩
theorem IG{c0 p:Nat}{L:List (Str×V)}{s:List Pt}{b:Bool}(F:400<=n)(m:lk (z "parts") L=some (.ref p))(i:lk (z "is_alone") L=some (.bool b))(l:U.get p=some (.list (s.map b_)))(t:∀e∈s,TP U e)(B:s.length<=3)(x:b=true->s.length=1):
 ∃v c,(run (TA q) (n+30)).ex (a_ L c0) gT U=some (.ok .next (put (z "form") v L) c)/\Gr U c/\(b=true->∃e,s=[e]/\v=cL e)/\(b=false->∃a,v=.ref a/\U.length<=a/\c.get a=some (.list (.str (z "begin")::s.map cL))):=by
 have e:=GA (q:=q) (n:=n) L c0 U
 cases b with
 |true=>
  have w:=x rfl
  obtain⟨f,rfl⟩:∃f,s=[f]:=by
   match s,w with
   |[f],_=>exact⟨f,rfl⟩
  have C:sub (TA q) U (.ref p) (int 0)=some (b_ f):=rA l (by decide) rfl
  simp only[m,i,Option.map_some,bE,di,dw,cond_true,C,(mj (q:=q) (t f (.head _))).1,bK] at e
  exact⟨_,U,e,Gr.refl _,λK=>⟨f,rfl,rfl⟩,(λh=>by ext h)⟩
 |false=>
  have u:bS [V.str (z "begin")].length=true:=rfl
  have g:=Gr.push U (.list [.str (z "begin")])
  have D:(U.push (.list [.str (z "begin")])).get U.length=some (.list [.str (z "begin")]):=Hp.cB _ _
  simp only[m,i,Option.map_some,bE,di,dw,cond_false,u,if_true] at e
  generalize U.push (.list [.str (z "begin")])=c at*
  have r:srcOf (TA q) c (.ref p)=some (.ok (.lst p) c):=by
   unfold srcOf
   simp only[g.at l]
  have o:=IB (q:=q) (n:=n-5) (c0:=c0) (g.at l) (λe y=>g.at (t e y)) (by omega) (by omega)
  rw[show n-5+31=n+26 by omega] at o
  have k:=Gr.push c (.list (s.map cL))
  have E:(c.push (.list (s.map cL))).get c.length=some (.list (s.map cL)):=Hp.cB _ _
  simp only[r,o,bE,List.reverse_reverse] at e
  generalize c.push (.list (s.map cL))=d at*
  have j:bin .Add d (.ref U.length) (.ref c.length) (TA q).bO=some (.ok (.ref d.length) (d.push (.list (.str (z "begin")::s.map cL)))):=by
   exact sm (k.at D) E (eF (by simp;lia))
  simp only[j,bK] at e
  exact⟨_,_,e,g.trans (k.trans (Gr.push _ _)),(λh=>by ext h),λK=>⟨d.length,rfl,Nat.le_trans g.1 k.1,Hp.cB _ _⟩⟩
def gV(p:Nat)(D:List V):List V:=bif Nat.beq (cR p) 2 then D else D.set (cu p) (bif Nat.beq (cR p) 1 then .str (z "macro") else .str (z "global"))
theorem wM(K:Nat->Nat)(j c:Nat)(b:j<6):cP (dG K j c)=(cP K).set j (kS (jB c)):=by
 refine List.ext_getElem? λi=>?_
 rw[List.getElem?_set]
 unfold cP
 rw[List.getElem?_map,List.getElem?_map,List.length_map,List.length_range]
 by_cases a:i<12
 ·rw[List.getElem?_range a]
  by_cases h:j=i
  ·subst h
   rw[if_pos rfl,if_pos (by omega)]
   show some (kS (clsAt (dG K j c) j))=_
   have:clsAt (dG K j c) j=jB c:=by unfold clsAt dG;rw[fH b,if_pos rfl];rfl
   rw[this]
  ·rw[if_neg h]
   show some (kS (clsAt (dG K j c) i))=some (kS (clsAt K i))
   have:clsAt (dG K j c) i=clsAt K i:=by
    unfold clsAt dG
    rw[if_neg (Ne.symm h)]
   rw[this]
 ·rw[List.getElem?_eq_none (by rw[List.length_range];omega)]
  rw[if_neg (by lia)];rfl
theorem wN(p:Nat):(p<36/\cR p=0)\/(36<=p/\p<72/\cR p=1)\/(72<=p/\cR p=2):=by
 unfold cR
 by_cases h:p<36
 ·rw[fH h];exact .inl ⟨h,rfl⟩
 ·rw[eJ (Nat.le_of_not_lt h)]
  by_cases a:p<72
  ·rw[fH a];exact .inr (.inl ⟨by omega,a,rfl⟩)
  ·rw[eJ (Nat.le_of_not_lt a)];exact .inr (.inr ⟨by omega,rfl⟩)
theorem II(c:Nat):jB (er c)=752:=by
 unfold er jB
 cases Nat.beq c 0<;>rfl
theorem IJ(K:Nat->Nat)(p:Nat):gV p (cP K)=cP (fG p K):=by
 unfold gV fG
 rcases wN p with⟨h,e⟩|⟨h,a,e⟩|⟨h,e⟩<;>rw[e]
 ·rw[fH h]
  show(cP K).set _ (.str (z "global"))=cP (dG K (cu p) (er (K (cu p))))
  rw[wM K _ _ (iP (by lia)),II];rfl
 ·rw[eJ h,fH a]
  show(cP K).set _ (.str (z "macro"))=cP (dG K (cu p) 773)
  rw[wM K _ _ (iP a)];rfl
 ·rw[eJ (show 36<=p by lia),eJ h];rfl
theorem wO(K:Nat->Nat):(cP K).length=12:=by unfold cP;rw[List.length_map,List.length_range]
theorem IK(L:List (Str×V))(c:Nat)(a b:V)(G:Hp):dz (cV ([z "is_bad",z "due"].zip [a,b]) (a_ L c) G)=some (.ok .next (put (z "due") b (put (z "is_bad") a L)) G):=by rfl'
theorem ne_nil{i j:Nat}{l:List V}(h:U.get i=some (.list l))(a:U.get j=some (.list [])):cmp (TA q) U .NotEq (.ref i) (.ref j)=some (!l.isEmpty):=by
 have e:ec U (.ref i) (.ref j)=some l.isEmpty:=by
  unfold ec
  simp only[h,a]
  cases l<;>rfl
 show(ec _ _ _).map _=_
 rw[e];rfl
theorem IL{i:Nat}{l:List V}(h:U.get i=some (.list l))(a:l.length<4096):cF (TA q) (.ty 0) [.ref i] U=some (.ok (.ref U.length) (U.push (.list l))):=by
 show iw (.ref i) U=_
 unfold iw
 simp only[h,eF a,if_true]
theorem wQ(f:Pt->Bool):∀s:List Pt,(!((s.filter f).map λa=>int 1).isEmpty)=s.any f
 |[]=>rfl
 |e::s=>by
  rw[List.any_cons]
  cases h:f e with
  |true=>rw[List.filter_cons_of_pos h];rfl
  |false=>rw[List.filter_cons_of_neg (by rw[h];decide)];exact wQ f s
theorem IM{c0 p k:Nat}{L:List (Str×V)}{s:List Pt}{D:List V}(P:400<=n)(w:lk (z "parts") L=some (.ref p))(f:lk (z "known") L=some (.ref k))(j:U.get p=some (.list (s.map b_)))(E:∀e∈s,TP U e)(y:s.length<=3)(C:U.get k=some (.list D))(O:D.length=12):
 ∃u c,(run (TA q) (n+30)).ex (a_ L c0) fE U=some (.ok .next (put (z "due") (.ref u) (put (z "is_bad") (.bool (s.any λe=>b9 e.1)) L)) c)/\Gr U c/\U.length<=u/\c.get u=some (.list D):=by
 have e:=GF (q:=q) (n:=n) L c0 U
 have r:srcOf (TA q) U (.ref p)=some (.ok (.lst p) U):=by
  unfold srcOf
  simp only[j]
 have h:=IC (q:=q) (n:=n-6) (c0:=c0) j E (by omega) (by omega)
 rw[show n-6+31=n+25 by omega] at h
 generalize v:((s.filter λe=>b9 e.1).map λR=>int 1)=B at*
 have l:=Gr.push U (.list B)
 have F:(U.push (.list B)).get U.length=some (.list B):=Hp.cB _ _
 simp only[w,f,Option.map_some,bE,r,h,List.reverse_reverse] at e
 generalize U.push (.list B)=c at*
 have o:bS ([]:List V).length=true:=rfl
 have i:=Gr.push c (.list [])
 have K:(c.push (.list [])).get c.length=some (.list []):=Hp.cB _ _
 simp only[o,if_true,bE] at e
 generalize c.push (.list [])=d at*
 have g:=l.trans i
 simp only[ne_nil (q:=q) (i.at F) K,Option.map_some,bE,IL (q:=q) (g.at C) (show D.length<4096 by lia)] at e
 have m:=Gr.push d (.list D)
 have M:(d.push (.list D)).get d.length=some (.list D):=Hp.cB _ _
 generalize d.push (.list D)=N at*
 have t:∀a b:V,(bS [a,b].length&&!([a,b]).isEmpty)=true:=λR S=>rfl
 simp only[t,if_true,bK] at e
 rw[ou (Hp.cB _ _) rfl,IK] at e
 have x:(!B.isEmpty)=s.any λe=>b9 e.1:=by rw[←v];exact wQ _ _
 rw[x] at e
 exact⟨d.length,_,e,g.trans (m.trans (Gr.push _ _)),g.1,Hp.mE M⟩
theorem IP{F:Fs}{k:Hp->Option (R (List V))}:ew (TA q) F (.old 1898) (z "index") k U=bd (k U) λv G=>cf (TA q) (.old 1898) 3 v G:=by rfl'
theorem IQ{j:Nat}(h:j<6):cf (TA q) (.old 1898) 3 [.str (nm (num j))] U=some (.ok (int j) U):=by
 match j,h with
 |0,_=>rfl'
 |1,_=>rfl'
 |2,_=>rfl'
 |3,_=>rfl'
 |4,_=>rfl'
 |5,_=>rfl'
theorem nonempty{j:Nat}(h:j<6):cmp (TA q) U .NotEq (.str (nm (num j))) (.str (z ""))=some true:=by
 match j,h with
 |0,_=>rfl'
 |1,_=>rfl'
 |2,_=>rfl'
 |3,_=>rfl'
 |4,_=>rfl'
 |5,_=>rfl'
theorem IS{i j:Nat}{l:List V}{v:V}(h:U.get i=some (.list l))(a:j<l.length)(b:l.length<4096):fj U (.ref i) (int j) v=some (U.set i (.list (l.set j v))):=by
 show(match U.get i with|some (.list xs)=>(if(inR (.ofNat j)&&Nat.ble (Nat.succ (Int.ofNat j).toNat) xs.length)=true then some (U.set i (.list (xs.set (Int.ofNat j).toNat v))) else none)|some (.dict e)=>_|_=>none)=_
 rw[h]
 show(if(inR (.ofNat j)&&Nat.ble (Nat.succ j) l.length)=true then some (U.set i (.list (l.set j v))) else none)=_
 rw[if_pos]
 rw[Bool.and_eq_true]
 exact⟨eF (by lia),Nat.ble_eq_true_of_le a⟩
theorem IT{c0 u:Nat}{L:List (Str×V)}{e:Pt}{D:List V}(y:400<=n)(B:e.1<78)(l:bP L [(z "due",.ref u),(z "part",b_ e)])(t:TP U e)(j:U.get u=some (.list D))(w:D.length=12):
 ∃a,(run (TA q) (n+32)).ax (a_ L c0) (cU jw) U=some (.ok .next L a)/\bN u U a/\a.get u=some (.list (gV e.1 D)):=by
 obtain⟨C,s,v,E⟩:=mj (q:=q) t
 have k:lk (z "part") L=some (b_ e):=l _ _ (by rfl')
 have r:lk (z "due") L=some (.ref u):=l _ _ (by rfl')
 have d:=GI (q:=q) (n:=n+1) L c0 U
 rw[GL]
 by_cases i:cR e.1=2
 ·have c:Nat.beq (cR e.1) 2=true:=by rw[i];rfl
  rw[c,cond_true] at s
  have o:cmp (TA q) U .NotEq (.str (z "")) (.str (z ""))=some false:=by rfl'
  simp only[k,Option.map_some,bE,s,o,bK,di,dw,cond_false] at d
  refine⟨U,?_,bN.refl _ _,?_⟩
  ·rw[fX (n:=n+30)]
   exact d.trans (by rfl')
  ·unfold gV;rw[c];exact j
 ·have c:Nat.beq (cR e.1) 2=false:=by
   cases x:Nat.beq (cR e.1) 2
   ·rfl
   ·exact absurd (Nat.eq_of_beq_eq_true x) i
  rw[c,cond_false] at s
  have m:cu e.1<6:=by
   rcases wN e.1 with⟨h,C⟩|⟨E,h,F⟩|⟨K,h⟩
   ·exact iP (by lia)
   ·exact iP h
   ·exact absurd h i
  simp only[k,Option.map_some,bE,s,nonempty (q:=q) m,bK,di,dw,cond_true] at d
  have f:=GJ (q:=q) (n:=n-1) L c0 U
  have p:∀b:Bool,bX (some b) (some (R.ok (V.str (z "macro")) U)) (some (R.ok (V.str (z "global")) U))=some (R.ok (bif b then V.str (z "macro") else .str (z "global")) U):=λb=>by cases b<;>rfl
  simp only[k,r,Option.map_some,bE,s,v,di,p,bK,IP,IQ (q:=q) m,IS j (show cu e.1<D.length by omega) (show D.length<4096 by lia),d0] at f
  refine⟨U.set u (.list (D.set (cu e.1) (bif Nat.beq (cR e.1) 1 then .str (z "macro") else .str (z "global")))),?_,bN.set u U _,?_⟩
  ·rw[fX (n:=n+30)]
   refine d.trans ?_
   rw[GK]
   have g:(run (TA q) (n+29)).ex (a_ L c0) rv U=some (.ok .next L (U.set u (.list (D.set (cu e.1) (bif Nat.beq (cR e.1) 1 then .str (z "macro") else .str (z "global")))))):=by
    rw[show n-1+30=n+29 by omega] at f;exact f
   rw[fX (n:=n+28)]
   exact g
  ·rw[Hp.eN (Hp.cj j)]
   unfold gV;rw[c];rfl
def rQ(ps:List Nat)(D:List V):List V:=ps.foldl (λD p=>gV p D) D
theorem IU(p:Nat)(D:List V):(gV p D).length=D.length:=by
 unfold gV
 cases Nat.beq (cR p) 2
 ·rw[cond_false,List.length_set]
 ·rfl
theorem IV{c0 c u:Nat}{es:List Pt}(w:∀e∈es,e.1<78)(C:c≠u)(i:∀e∈es,e.2 (fB e.1)≠u):∀(s p:List Pt) (L:List (Str×V)) (U:Hp) (D:List V) (n:Nat),es=p++s->400+s.length<=n->U.get c=some (.list (es.map b_))->(∀e∈es,TP U e)->lk (z "due") L=some (.ref u)->U.get u=some (.list D)->D.length=12->
 ∃j a,(run (TA q) (n+33)).fr (a_ L c0) (z "part") (cU jw) (.lst c) p.length U=some (.ok .next j a)/\(∀y,y≠z "part" ->lk y j=lk y L)/\bN u U a/\a.get u=some (.list (rQ (s.map (·.1)) D)):=by
 intro s
 induction s with
 |nil=>
  intro p L U D n d P g l r B o
  refine⟨L,U,og ?_,λ_ _=>rfl,bN.refl _ _,B⟩
  show(match U.get c with|some (.list xs)=>some xs[p.length]? |_=>none)=_
  rw[g]
  show some ((es.map b_)[p.length]?)=_
  rw[d,List.append_nil,List.getElem?_eq_none (by rw[List.length_map];exact Nat.le_refl _)]
 |cons e s T=>
  intro p L U D n d P g l r B o
  rw[List.length_cons] at P
  obtain⟨n,rfl⟩:∃k,n=k+1:=⟨n-1,by omega⟩
  have O:e∈es:=by rw[d];simp
  have t:cz (TA q) U (.lst c) p.length=some (some (b_ e)):=by
   show(match U.get c with|some (.list xs)=>some xs[p.length]? |_=>none)=_
   rw[g]
   show some ((es.map b_)[p.length]?)=_
   rw[d,List.map_append,List.getElem?_append_right (by rw[List.length_map];exact Nat.le_refl _),List.length_map,Nat.sub_self];rfl
  have f:z "due" ≠z "part" :=λh=>by
   have:=d7.mpr h
   revert this;decide+kernel
  have v:bP (put (z "part") (b_ e) L) [(z "due",.ref u),(z "part",b_ e)]:=.mk (List.forall_mem_cons.mpr ⟨by rw[jx,if_neg f];exact r,List.forall_mem_singleton.mpr (oV _ _ _)⟩)
  obtain⟨M,S,K,E⟩:=IT (q:=q) (n:=n+1) (c0:=c0) (by lia) (w e O) v (l e O) B o
  obtain⟨j,a,N,x,W,F⟩:=T (p++[e]) (put (z "part") (b_ e) L) M (gV e.1 D) n (by rw[d,List.append_assoc];rfl) (by lia) (by rw[K.2 _ (Hp.cj g) C];exact g) (λm b=>by
   unfold TP
   rw[K.2 _ (Hp.cj (l m b)) (i m b)];exact l m b) (by rw[jx,if_neg f];exact r) E (by rw[IU];exact o)
  refine⟨j,a,?_,λy R=>by rw[x y R,jx,if_neg R],K.trans W,F⟩
  rw[oh (n:=n+33) t (GH L c0 U _) S]
  rw[List.length_append] at N
  exact N
def gB(ps:List Nat):Bool:=ps.all λp=>!b9 p
def iX(ps:List Nat)(K:Nat->Nat):Nat->Nat:=ps.foldl (λK p=>fG p K) K
def gW(ps:List Nat):Nat:=(ps.map fg).sum
theorem wR:∀(ps:List Nat) (K:Nat->Nat),rQ ps (cP K)=cP (iX ps K)
 |[],_=>rfl
 |p::ps,K=>by
  show rQ ps (gV p (cP K))=cP (iX ps (fG p K))
  rw[IJ,wR ps]
theorem IW(r:List Pt)(K:Nat->Nat):me r K=iX (r.map (·.1)) K:=by unfold me iX;rw[List.foldl_map]
theorem IX(r:List Pt):ku r=gW (r.map (·.1)):=by unfold ku gW;rw[List.map_map];rfl
theorem IY(r:List Pt):(r.all λe=>!b9 e.1)=gB (r.map (·.1)):=by unfold gB;rw[List.all_map];rfl
theorem IZ:V.str (nm 4)=.str (z "begin"):=by rfl'
theorem pU{m:Nat}{v:V}{s:List Pt}(hn:400<=n)(W:Wd t K false al U)(ae:s≠[])(hl:s.length<=3)(y:∀e∈s,PB m al U e)(hv:(∃e,s=[e]/\v=cL e)\/(∃a,v=.ref a/\Off al U a/\U.get a=some (.list (.str (z "begin")::s.map cL)))):
 ∃u f,(run (TA q) (n+25)).call 1915 [.ref (al 1),v] U=some (.ok u f)/\
  (gB (s.map (·.1))=true->∃a w d l C,(run (TA q) (n+27)).call 1806 [u,.ref (al 1)] f=some (.ok (.ref a) d)/\d.get a=some (.list w)/\w.length=gW (s.map (·.1))/\Wd C (iX (s.map (·.1)) K) false l d/\Lq al U l d/\Off l d a)/\
  (gB (s.map (·.1))=false->∃d l C,(run (TA q) (n+27)).call 1806 [u,.ref (al 1)] f=some (.exc d)/\Wd C K false l d/\Lq al U l d):=by
 obtain⟨n,rfl⟩:∃k,n=k+53:=⟨n-53,by omega⟩
 have O:∀(o:List Pt) (B:Nat) (j:Nat->Nat) (f:Hp) (u:V),o.map (·.1)=s.map (·.1)->Wd B K false j f->Lq al U j f->(∀D,oQ q (n+72) B K j (f.push (.dict D)) u o)->
  (gB (s.map (·.1))=true->∃a w d l C,(run (TA q) (n+53+27)).call 1806 [u,.ref (al 1)] f=some (.ok (.ref a) d)/\d.get a=some (.list w)/\w.length=gW (s.map (·.1))/\Wd C (iX (s.map (·.1)) K) false l d/\Lq al U l d/\Off l d a)/\
  (gB (s.map (·.1))=false->∃d l C,(run (TA q) (n+53+27)).call 1806 [u,.ref (al 1)] f=some (.exc d)/\Wd C K false l d/\Lq al U l d):=by
  intro o B j f u r W1 P hr
  obtain⟨E,F⟩:=HY (q:=q) (n:=n) W1 hr
  rw[IY,r] at E F
  rw[IW,IX,r] at E
  rw[P.one] at E F
  refine⟨λh=>?_,λh=>?_⟩
  ·obtain⟨a,w,d,l,T,a2,a3,a4,a5,a6⟩:=E h
   exact⟨a,w,d,l,B,T,a2,a3,a4,P.trans a5,a6⟩
  ·obtain⟨d,l,T,a2,a3⟩:=F h
   exact⟨d,l,B,T,a2,P.trans a3⟩
 rcases hv with⟨e,rfl,rfl⟩|⟨a,rfl,oa,ha⟩
 ·have S:=y e (.head _)
  obtain⟨f,j,ys,R,W1,b1,s1⟩:=vA (q:=q) (n:=n+53+25) (by omega) S.p W S.b
  have ab:[V.ref 1,(D e.1).gv N].map (V.mp (cat al e.2))=[.ref (al 1),cL e]:=by
   simp only[List.map_cons,List.map_nil,cC,b8 (show 1<N by decide),rK S.p]
  rw[ab] at R
  refine⟨_,f,R,O [(e.1,ys)] _ j f _ rfl W1 s1.lq λD=>?_⟩
  have g:=Gr.push f (.dict D)
  exact HM (by lia) (W1.gr g) S.p (Nat.le_max_right _ _) (b1.grow g.fr)
 ·have x:V.str (z "begin")::s.map cL=((76,λi=>i)::s).map cL:=by
   rw[List.map_cons,←IZ];rfl
  rw[x] at ha
  obtain⟨o,B,j,f,u,lo,R,r,W1,hb,P,c,M⟩:=H7 (q:=q) (n:=n+53+25) (by omega) (es:=(76,λi=>i)::s) (by rw[List.length_cons];omega) W oa ha (λe x=>by
   rcases List.mem_cons.mp x with rfl|h
   ·exact⟨by decide,bR.nil⟩
   ·exact⟨(y e h).p,(y e h).b⟩)
  refine⟨u,f,R,?_⟩
  cases o with
  |nil=>ext r
  |cons r0 o=>
   rw[List.map_cons,List.map_cons,List.cons.injEq] at r
   obtain⟨aa,r⟩:=r
   have af:cK j r0=.ref (j 20):=by
    obtain⟨p0,y0⟩:=r0
    have:p0=76:=aa
    subst this
    show V.ref (cat j y0 20)=_
    rw[b8 (by decide)]
   rw[List.map_cons,af] at c
   cases o with
   |nil=>
    cases s with
    |nil=>exact absurd rfl ae
    |cons e s=>ext r
   |cons r1 o=>
    have L:(r1::o).length=s.length:=by
     have:=congrArg List.length r
     rwa [List.length_map,List.length_map] at this
    rw[List.length_cons] at L
    refine O (r1::o) B j f u r W1 P λD=>?_
    have g:=Gr.push f (.dict D)
    refine HU (by lia) (W1.gr g) (lo:=lo) (c.gr g) (by lia) (λa E F=>?_) λe x=>⟨(hb e (.tail _ x)).1,(hb e (.tail _ x)).2.1,(hb e (.tail _ x)).2.2.grow g.fr⟩
    rw[Hp.length_push] at F
    rcases Nat.lt_or_ge a f.length with h|h
    ·exact(M a E h).gr g
    ·exact W1.off h (by rw[Hp.length_push];omega)
structure LS(c0 d:Nat)(K:Nat->Nat)(t:Nat)(al:Nat->Nat)(U:Hp)(L:List (Str×V))(kc:Nat)(l:List Nat):Prop where
 has:bP L [(z "world",.ref (al 1)),(z "known",.ref kc)]
 W:Wd t K false al U
 oc:Off al U c0
 hc:U.get c0=some (.cell (some (.ref d)))
 od:Off al U d
 dk:DK U d l
 ll:l.length<=14
 ok:Off al U kc
 hk:U.get kc=some (.list (cP K))
theorem wU(C:Nat):∃s,kS C=.str s:=by
 unfold kS
 cases Nat.beq C 710<;>cases Nat.beq C 773<;>exact⟨_,rfl⟩
theorem wV{a:Nat}{U:Hp}{K:Nat->Nat}{l:List Nat}(h:U.get a=some (.list (cP K)))(b:DK U a l):False:=by
 rw[show U.get a=_ from b] at h
 have h:l.map int=cP K:=by injection h with q;injection q
 have:=congrArg List.head? h
 obtain⟨s,c⟩:=wU (clsAt K 0)
 cases l with
 |nil=>ext this
 |cons x l=>
  have:some (int x)=some (kS (clsAt K 0)):=this
  rw[c] at this
  ext this
theorem wW:∀l:List V,(∀v∈l,∃s,v=.str s)->gX l l=some true
 |[],_=>rfl
 |v::l,h=>by
  obtain⟨s,rfl⟩:=h v (.head _)
  unfold gX
  rw[wW l λv a=>h v (.tail _ a)]
  show(some (sq s s)).bind _=_
  rw[jO];rfl
theorem I1{q:Option (Nat×List V)}{U:Hp}{i j:Nat}{K:Nat->Nat}(h:U.get i=some (.list (cP K)))(b:U.get j=some (.list (cP K))):cmp (TA q) U .NotEq (.ref i) (.ref j)=some false:=by
 have e:ec U (.ref i) (.ref j)=some true:=by
  unfold ec
  simp only[h,b]
  rw[if_pos (Nat.beq_refl _)]
  refine wW _ λv a=>?_
  unfold cP at a
  obtain⟨k,c,rfl⟩:=List.mem_map.mp a
  exact wU _
 show(ec _ _ _).map _=_
 rw[e];rfl
theorem I2(s:List Pt):(s.any λe=>b9 e.1)=!gB (s.map (·.1)):=by
 unfold gB
 induction s with
 |nil=>rfl
 |cons e s i=>
  rw[List.any_cons,List.map_cons,List.all_cons,i]
  cases b9 e.1<;>rfl
theorem I3(s:List Pt):((s.filter λe=>!Nat.beq (cR e.1) 1).map λa=>int 1).length=gW (s.map (·.1)):=by
 rw[List.length_map]
 induction s with
 |nil=>rfl
 |cons e s i=>
  unfold gW at i⊢
  rw[List.map_cons,List.map_cons,List.sum_cons,←i]
  unfold fg
  cases h:Nat.beq (cR e.1) 1 with
  |true=>rw[List.filter_cons_of_neg (by rw[h];decide)];simp
  |false=>rw[List.filter_cons_of_pos (by rw[h];rfl)];simp;lia
theorem I9{T:Tb}{G:Hp}{m:Nat}:cmp T G .NotEq (int m) (int m)=some false:=by
 show(some (Nat.beq m m)).map _=_
 rw[Nat.beq_refl];rfl
theorem I_{c0 m:Nat}{L:List (Str×V)}{v:V}{s:List Pt}(F:400<=n)(W:Wd t K false al U)(p:s≠[])(E:s.length<=3)(r:∀e∈s,PB m al U e)(N:(∃e,s=[e]/\v=cL e)\/(∃a,v=.ref a/\Off al U a/\U.get a=some (.list (.str (z "begin")::s.map cL))))
 (C:lk (z "world") L=some (.ref (al 1)))(o:lk (z "form") L=some v):
 (gB (s.map (·.1))=true->∃a g b l c,(run (TA q) (n+32)).ex (a_ L c0) iU U=some (.ok .next (put (z "nodes") (.ref a) L) b)/\b.get a=some (.list g)/\g.length=gW (s.map (·.1))/\Wd c (iX (s.map (·.1)) K) false l b/\Lq al U l b)/\
 (gB (s.map (·.1))=false->∃b l c,(run (TA q) (n+32)).ex (a_ L c0) iU U=some (.ok .next (put (z "nodes") .none L) b)/\Wd c K false l b/\Lq al U l b):=by
 obtain⟨u,P,O,y,B⟩:=pU (q:=q) (n:=n) F W p E r N
 have d:=GN (q:=q) (n:=n+2) L c0 U
 rw[GP] at d
 have d:(run (TA q) (n+32)).ex (a_ L c0) iU U=iD (TA q) (a_ L c0) (z "SyntaxTrouble") (z "nodes") ((run (TA q) (n+30)).ex (a_ L c0) rx U):=d.trans (by rw[fX (n:=n+29)])
 have f:=GO (q:=q) (n:=n) L c0 U
 simp only[C,o,Option.map_some,bE,O] at f
 refine⟨λh=>?_,λh=>?_⟩
 ·obtain⟨a,g,b,l,c,i,j,k,w,x,R⟩:=y h
  rw[i] at f
  exact⟨a,g,b,l,c,by rw[d,f];rfl,j,k,w,x⟩
 ·obtain⟨b,l,c,i,j,k⟩:=B h
  rw[i,l_] at f
  refine⟨b,l,c,?_,j,k⟩
  rw[d,f]
  have D:fR (TA q) (a_ L c0) (z "SyntaxTrouble")=true:=by rfl'
  have M:bZ ⟨(a_ L c0).sc,(a_ L c0).loc,(a_ L c0).bF⟩ b (z "nodes") .none=some (⟨(a_ L c0).sc,put (z "nodes") .none L,(a_ L c0).bF⟩,b):=rI (by rfl')
  unfold iD
  simp only[D,if_true]
  rw[M];rfl
theorem wX{c0 p F:Nat}{L:List (Str×V)}{s:List Pt}(hn:400<=n)(W:Wd t K false al U)(N:lk (z "world") L=some (.ref (al 1)))(i:lk (z "known") L=some (.ref F))(j:lk (z "parts") L=some (.ref p))(R:U.get F=some (.list (cP K)))(E:U.get p=some (.list (s.map b_)))(ht:∀e∈s,TP U e)(o:s.length<=3)
 (k:lk (z "nodes") L=some .none\/∃a f,lk (z "nodes") L=some (.ref a)/\U.get a=some (.list f)/\f.length=gW (s.map (·.1))):
 ∃b,(run (TA q) (n+31)).ex (a_ L c0) eX U=some (.ok .next L b)/\Gr U b:=by
 have e:=GW (q:=q) (n:=n+1) L c0 U
 obtain⟨fa,b,hy,u,g,S⟩:=Iu (q:=q) (n:=n+1+24) (by omega) W
 have C:=I1 (q:=q) u (g.at R)
 simp only[N,i,Option.map_some,bE,hy,C,di,dw,cond_false] at e
 rcases k with c|⟨a,f,c,v,l⟩
 ·have w:cmp (TA q) b .IsNot .none .none=some false:=rfl
  simp only[c,w,Option.map_some,bE,di,dw,cond_false,bK] at e
  exact⟨b,e.trans (by rfl'),g⟩
 ·have w:cmp (TA q) b .IsNot (.ref a) .none=some true:=rfl
  have P:f.length<=3:=by
   rw[l]
   have:∀s:List Pt,gW (s.map (·.1))<=s.length:=by
    intro s
    induction s with
    |nil=>exact Nat.le_refl _
    |cons e s ih=>
     unfold gW at ih⊢
     rw[List.map_cons,List.map_cons,List.sum_cons,List.length_cons]
     have:fg e.1<=1:=by unfold fg;cases Nat.beq (cR e.1) 1<;>decide
     lia
   exact Nat.le_trans (this s) o
  have r:srcOf (TA q) b (.ref p)=some (.ok (.lst p) b):=by
   unfold srcOf
   simp only[g.at E]
  have h:=ID (q:=q) (n:=n-11) (c0:=c0) (g.at E) (λe O=>g.at (ht e O)) (by omega) (by omega)
  rw[show n-11+31=n+1+19 from Qd (d:=20) hn rfl rfl] at h
  have m:=I3 s
  generalize((s.filter λe=>!Nat.beq (cR e.1) 1).map λ_=>int 1)=B at*
  have q2:(b.push (.list B)).get b.length=some (.list B):=Hp.cB _ _
  have M:=Gr.push b (.list B)
  have x:=il (T:=TA q) (g.at v) (show f.length<4096 by omega)
  have y:=il (T:=TA q) q2 (show B.length<4096 by lia)
  have D:cmp (TA q) (b.push (.list B)) .NotEq (int f.length) (int B.length)=some false:=by
   rw[m,l];exact I9
  simp only[c,w,j,Option.map_some,bE,di,dw,cond_true,x,r,h,List.reverse_reverse,y,D,cond_false,bK] at e
  exact⟨_,e.trans (by rfl'),g.trans M⟩
theorem Ja{k d R:Nat}{L:List (Str×V)}{l:List Nat}(hn:420<=n)(S:LS k d K t al U L R l):
 ∃K' t' a3 aX L' bo l',(run (TA q) (n+40)).ax (a_ L k) (cU eH) U=some (.ok .next L' aX)/\LS k d K' t' a3 aX L' bo l':=by
 have aG:k≠d:=λq=>by have:=S.hc;rw[q,show U.get d=_ from S.dk] at this;ext this
 obtain⟨s,l1,aY,E,e0,ab,r,h1,bc,o1,aO,av,aC,bw⟩:=IA (q:=q) (n:=n+9) (L:=L) (by omega) S.W S.od S.oc S.dk S.ll S.hc rfl
 have g:=S.has.put (z "parts") (.ref E)
 generalize put (z "parts") (.ref E) L=L1 at e0 g
 have kp:lk (z "parts") L1=some (.ref E):=g _ _ (by rfl')
 have W1:=S.W.only o1 S.od
 have bg:=o1.1
 have hd:=S.od.1
 have ak:aY.get k=some (.cell (some (.ref d))):=by rw[o1.2 _ S.oc.1 aG];exact S.hc
 obtain⟨b,l2,aZ,e1,hb,h2,aN,o2⟩:=IE (q:=q) (n:=n+8) (by omega) h1 bc ak kp av r
 have g:=g.put (z "is_alone") (.bool b)
 generalize put (z "is_alone") (.bool b) L1=L2 at e1 g
 have aa:E≠d:=by lia
 have ah:aZ.get E=some (.list (s.map b_)):=by rw[o2.2 _ aC.1 aa];exact av
 have ae:∀e∈s,PB U.length al aZ e:=λe x=>(aO e x).only o2 hd
 obtain⟨v,a0,e2,g3,bk,bl⟩:=IG (q:=q) (n:=n+7) (c0:=k) (by omega) (g _ _ (by rfl')) (g _ _ (by rfl')) ah (λe x=>(ae e x).t) r hb
 have g:=g.put (z "form") v
 generalize put (z "form") v L2=L3 at e2 g
 have aM:R≠d:=λq=>wV (by rw[←q];exact S.hk) S.dk
 have aJ:a0.get R=some (.list (cP K)):=g3.at (by rw[o2.2 _ (Nat.lt_of_lt_of_le S.ok.1 bg) aM,o1.2 _ S.ok.1 aM];exact S.hk)
 have O:=g3.at ah
 have N:∀e∈s,PB U.length al a0 e:=λe x=>(ae e x).only (g3.only d) hd
 obtain⟨u,M,e3,g4,hu,bj⟩:=IM (q:=q) (n:=n+6) (c0:=k) (by omega) (g _ _ (by rfl')) (g _ _ (by rfl')) O (λe x=>(N e x).t) r aJ (wO K)
 have g:=(g.put (z "is_bad") (.bool (s.any λe=>b9 e.1))).put (z "due") (.ref u)
 generalize put (z "due") (.ref u) (put (z "is_bad") (.bool (s.any λe=>b9 e.1)) L3)=L4 at e3 g
 have ai:=g4.at O
 have af:∀e∈s,PB U.length al M e:=λe x=>(N e x).only (g4.only d) hd
 have aQ:E≠u:=λq=>by have:=Hp.cj O;lia
 have e4:=GG (q:=q) (n:=n+5) L4 k M
 have aS:srcOf (TA q) M (.ref E)=some (.ok (.lst E) M):=by
  unfold srcOf
  simp only[ai]
 simp only[g (z "parts") (.ref E) (by rfl'),Option.map_some,bE,aS,bK] at e4
 obtain⟨L5,i,e5,ba,o5,ay⟩:=IV (q:=q) (c0:=k) (u:=u) (es:=s) (λe x=>(af e x).p) aQ (λe x q=>by have:=(N e x).hi _ (Nat.le_refl _);lia) s [] L4 M (cP K) (n+1) rfl (by lia) ai (λe x=>(af e x).t) (g _ _ (by rfl')) bj (wO K)
 have e4:=e4.trans e5
 rw[wR] at ay
 have g:bP L5 [(z "world",.ref (al 1)),(z "known",.ref R),(z "parts",.ref E),(z "form",v),(z "is_bad",.bool (s.any λe=>b9 e.1)),(z "due",.ref u)]:=by
  have h0:bP L4 [(z "world",.ref (al 1)),(z "known",.ref R),(z "parts",.ref E),(z "form",v),(z "is_bad",.bool (s.any λe=>b9 e.1)),(z "due",.ref u)]:=g.dH _ (by rfl')
  intro y w hy
  by_cases aT:y=z "part"
  ·subst aT
   have:lk (z "part") [(z "world",V.ref (al 1)),(z "known",.ref R),(z "parts",.ref E),(z "form",v),(z "is_bad",.bool (s.any λe=>b9 e.1)),(z "due",.ref u)]=none:=by rfl'
   rw[this] at hy;ext hy
  ·rw[ba y aT];exact h0 y w hy
 have bz:=o2.1
 have bA:=g3.1
 have bB:=g4.1
 have bC:=o5.1
 have C:bN d aY i:=by
  refine⟨by lia,λj hj a9=>?_⟩
  rw[o5.2 j (by lia) (by lia),g4.2 j (by omega),g3.2 j (by omega),o2.2 j hj a9]
 have W5:=W1.only C (o1.off S.od)
 have ag:∀e∈s,PB U.length al i e:=λe x=>(aO e x).only C hd
 have bq:Off al i d:=C.off (o1.off S.od)
 have bp:Off al i k:=C.off (o1.off S.oc)
 have br:Off al i R:=C.off (o1.off S.ok)
 have aH:DK i d l2:=by
  unfold DK
  have:d<M.length:=by lia
  rw[o5.2 d this (by lia),g4.2 d (by lia),g3.2 d (by lia)];exact h2
 have a6:i.get k=some (.cell (some (.ref d))):=by rw[C.2 _ (Hp.cj ak) aG];exact ak
 have aK:i.get R=some (.list (cP K)):=by rw[o5.2 _ (by have:=S.ok.1;lia) (by have:=S.ok.1;lia)];exact g4.at aJ
 have bu:Off al i u:=W1.off (by lia) (Hp.cj ay)
 have aV:Off al i E:=C.off aC
 have aP:i.get E=some (.list (s.map b_)):=by rw[C.2 _ aC.1 aa];exact av
 have bh:s≠[]:=λh=>by rw[h] at ab;exact absurd ab (by decide)
 have ar:(∃e,s=[e]/\v=cL e)\/(∃a,v=.ref a/\Off al i a/\i.get a=some (.list (.str (z "begin")::s.map cL))):=by
  cases b with
  |true=>exact .inl (bk rfl)
  |false=>
   obtain⟨a,ha,bx,aI⟩:=bl rfl
   have bf:=Hp.cj aI
   refine .inr ⟨a,ha,W1.off (by omega) (by omega),?_⟩
   rw[o5.2 a (by omega) (by lia),g4.2 a bf];exact aI
 obtain⟨a5,a4⟩:=I_ (q:=q) (n:=n+2) (c0:=k) (by omega) W5 bh r ag ar (g _ _ (by rfl')) (g _ _ (by rfl'))
 have aj:∀{m c},Lq al i m c->(Off m c k/\c.get k=some (.cell (some (.ref d))))/\(Off m c d/\DK c d l2)/\(Off m c R/\c.get R=some (.list (cP K)))/\(Off m c u/\c.get u=some (.list (cP (iX (s.map (·.1)) K))))/\c.get E=some (.list (s.map b_))/\∀e∈s,TP c e:=by
  intro m c lq
  have f:∀{j o},Off al i j->i.get j=some o->Off m c j/\c.get j=some o:=λoj e=>⟨(lq.off _ oj).1,by rw[(lq.off _ oj).2];exact e⟩
  refine⟨f bp a6,f bq aH,f br aK,f bu ay,(f aV aP).2,λe x=>?_⟩
  have pb:=ag e x
  exact(f (S.W.off (pb.lo _ (Nat.le_refl _)) (pb.hi _ (Nat.le_refl _))) pb.t).2
 have F:=I2 s
 cases hg:gB (s.map (·.1)) with
 |true=>
  obtain⟨a,fs,c,m,t6,e6,a8,a7,W6,lq⟩:=a5 hg
  obtain⟨⟨aA,ao⟩,⟨aB,aq⟩,⟨aU,au⟩,⟨aW,az⟩,P,aw⟩:=aj lq
  rw[hg] at F
  rw[F] at g
  have g:=g.put (z "nodes") (.ref a)
  generalize put (z "nodes") (.ref a) L5=B at e6 g
  have e7:=v7 (q:=q) (n:=n+3) B k c
  have c1:cmp (TA q) c .Is (.ref a) .none=some false:=rfl
  have c2:cmp (TA q) c .NotEq (.bool false) (.bool (!true))=some false:=rfl
  simp only[g (z "nodes") (.ref a) (by rfl'),g (z "is_bad") (.bool (!true)) (by rfl'),Option.map_some,bE,c1,c2,bK,di,dw,cond_false] at e7
  have e7:(run (TA q) (n+3+30)).ex (a_ B k) kl c=some (.ok .next B c):=e7.trans (by rfl')
  have T:=v8 (q:=q) (n:=n+2) B k c
  simp only[g (z "is_bad") (.bool (!true)) (by rfl'),Option.map_some,bE,bK,di,dw,Bool.not_true,Bool.not_false,cond_true,GR] at T
  have aF:=GQ (q:=q) (n:=n) B k c
  simp only[g (z "due") (.ref u) (by rfl'),Option.map_some,bK] at aF
  have T:(run (TA q) (n+2+30)).ex (a_ B k) iV c=some (.ok .next (put (z "known") (.ref u) B) c):=T.trans ((fX (n:=n+29)).trans aF)
  have g:=g.put (z "known") (.ref u)
  generalize put (z "known") (.ref u) B=L7 at T g
  obtain⟨aD,e9,D⟩:=wX (q:=q) (n:=n) (c0:=k) (L:=L7) (by lia) W6 (by rw[lq.one];exact g _ _ (by rfl')) (g _ _ (by rfl')) (g _ _ (by rfl')) az P aw r (.inr ⟨a,fs,g _ _ (by rfl'),a8,a7⟩)
  refine⟨_,t6,m,aD,L7,u,l2,?_,⟨by rw[lq.one];exact g.dH _ (by rfl'),W6.gr D,aA.gr D,D.at ao,aB.gr D,D.at aq,aN,aW.gr D,D.at az⟩⟩
  rw[v_,bJ (n:=n+9+30) e0,bJ (n:=n+8+30) e1,bJ (n:=n+7+30) e2,bJ (n:=n+6+30) e3,bJ (n:=n+5+30) e4,bJ (n:=n+2+32) e6,bJ (n:=n+3+30) e7,bJ (n:=n+2+30) T,bJ (n:=n+31) e9];rfl
 |false=>
  obtain⟨c,m,t6,e6,W6,lq⟩:=a4 hg
  obtain⟨⟨aA,ao⟩,⟨aB,aq⟩,⟨aU,au⟩,⟨aW,az⟩,P,aw⟩:=aj lq
  rw[hg] at F
  rw[F] at g
  have g:=g.put (z "nodes") .none
  generalize put (z "nodes") .none L5=B at e6 g
  have e7:=v7 (q:=q) (n:=n+3) B k c
  have c1:cmp (TA q) c .Is .none .none=some true:=rfl
  have c2:cmp (TA q) c .NotEq (.bool true) (.bool (!false))=some false:=rfl
  simp only[g (z "nodes") .none (by rfl'),g (z "is_bad") (.bool (!false)) (by rfl'),Option.map_some,bE,c1,c2,bK,di,dw,cond_false] at e7
  have e7:(run (TA q) (n+3+30)).ex (a_ B k) kl c=some (.ok .next B c):=e7.trans (by rfl')
  have T:=v8 (q:=q) (n:=n+2) B k c
  simp only[g (z "is_bad") (.bool (!false)) (by rfl'),Option.map_some,bE,bK,di,dw,Bool.not_true,Bool.not_false,cond_false] at T
  have T:(run (TA q) (n+2+30)).ex (a_ B k) iV c=some (.ok .next B c):=T.trans (by rfl')
  obtain⟨aD,e9,D⟩:=wX (q:=q) (n:=n) (c0:=k) (L:=B) (by lia) W6 (by rw[lq.one];exact g _ _ (by rfl')) (g _ _ (by rfl')) (g _ _ (by rfl')) au P aw r (.inl (g _ _ (by rfl')))
  refine⟨K,t6,m,aD,B,R,l2,?_,⟨by rw[lq.one];exact g.dH _ (by rfl'),W6.gr D,aA.gr D,D.at ao,aB.gr D,D.at aq,aN,aU.gr D,D.at au⟩⟩
  rw[v_,bJ (n:=n+9+30) e0,bJ (n:=n+8+30) e1,bJ (n:=n+7+30) e2,bJ (n:=n+6+30) e3,bJ (n:=n+5+30) e4,bJ (n:=n+2+32) e6,bJ (n:=n+3+30) e7,bJ (n:=n+2+30) T,bJ (n:=n+31) e9];rfl
def E1:List (Option O):=[some (.dict [(.str (z "table"),.ref 3),(.str (z "last"),.int 0),(.str (z "titles"),.ref 6),(.str (z "ops"),.ref 7),(.str (z "root"),.none)]),some (.inst 1893 0),some (.dict [(.str (z "rows"),.ref 4),(.str (z "by_text"),.ref 5)]),some (.inst 461 2),some (.list []),some (.dict []),some (.dict []),some (.dict [])]
noncomputable def lay:List Nat:=[8,9,10,11,12,15,16,19,20,23,24,27,28,31,32,35,36,39,40,43,44,47,48,51,52,55,56,59,60,63,64,67,68,71,72,75,76,79,80,83,84,100,101,113,114,87,89,90,91,13,14,17,18,21,22,25,26,29,30,33,34,37,38,41,42,45,46,49,50,53,54,57,58,61,62,65,66,69,70,73,74,77,78,81,82,85,86,92,93,94,95,96,97,88]
noncomputable def K0(j:Nat):Nat:=bif Nat.beq j 3 then 0 else 710
def Ei:List (Option O):=[0,1,2,4,5].foldl (λE j=>E.set (58+2*num j) (some (.inst 710 (57+2*num j)))) (Ew 21 false false)++[some (.list (cP K0))]
def xb(T:Tb)(F F':Fs)(a:Nat)(G:Hp):Option (R V):=bd (F.call 1663 [.ref a] G) λr G=>match dQ T G (.ref a) (z "root") r with
 |some G=>F'.call 1927 [.ref a] G
 |none=>none
theorem Jb:eB [] E1 0 [] [] (λa b=>some ([],[0,1,2,3,4,5,6,7])) (some (.ref 1)) (RR.dJ (.old 1893) [] (cJ []))=true:=by decide+kernel
theorem Jc:eB E1 Ei 8 [0,4,5] [] (λa b=>some ([],lay)) (some (.ref N)) (xb Tt.tb RR RR 1 (cJ E1))=true:=by decide+kernel
theorem oX:Ei.length=N+1/\dP (Ew 21 false false) Ei=true:=⟨by decide+kernel,by decide+kernel⟩
theorem Jd:([0,1,2,4,5].all λj=>gO (Ei.getD (58+2*num j) none) (some (.inst 710 (57+2*num j))))=true:=by decide+kernel
theorem Je(d:150<=n)(U:Hp):∃a al,(run (TA q) n).dJ (.old 1893) [] U=some (.ok (.ref (al 1)) a)/\Im E1 al a/\Gr U a/\∀i,i<8->U.length<=al i:=by
 have m:Im [] (λi=>i) U:=⟨λi j h=>absurd h (Nat.not_lt_zero _),λi h=>absurd h (Nat.not_lt_zero _),λi o e=>by cases e⟩
 obtain⟨v,a,al,y,r,g⟩:=j4 m (λf r k=>vC (q:=q) (al:=λi=>i) (E:=0) d (as:=[]) rfl f r (λi h=>absurd h (Nat.not_lt_zero _)) (v:=.old 1893) rfl) Jb
 rw[g _ rfl] at y
 refine⟨a,al,y,r.im,⟨r.le,λj c=>r.fr j c λi b=>absurd b List.not_mem_nil⟩,λi b=>?_⟩
 rcases Nat.lt_or_ge (al i) U.length with h|h
 ·exact absurd (r.new i b h).1 (Nat.not_lt_zero _)
 ·exact h
theorem Jf{m:Nat}{al:Nat->Nat}{g}{b:Hp}(k:150<=n)(j:150<=m)(f:Nat->Nat)(r:Rel f g b U)(h:∀i,i<8->f i=al i):
 RO f g (V.mp f) (xb Tt.tb RR RR 1 b) (xb (TA q) (run (TA q) n) (run (TA q) m) (al 1) U):=by
 unfold xb
 have d:RO f g (V.mp f) (RR.call 1663 [.ref 1] b) ((run (TA q) n).call 1663 [.ref (al 1)] U):=eE (q:=q) (al:=al) (E:=8) (as:=[.ref 1]) (a:=1663) k rfl f r h
 refine RO.bd d λu G U r=>?_
 have s:=qy (same q) r (.ref 1) (z "root") u
 rw[cC,h 1 (by decide)] at s
 cases e:dQ Tt.tb G (.ref 1) (z "root") u with
 |none=>exact RO.no
 |some A=>
  obtain⟨o,c,l⟩:=s A e
  rw[c]
  exact eE (q:=q) (al:=al) (E:=8) (as:=[.ref 1]) (a:=1927) j rfl f l h
theorem Jg{m:Nat}{al:Nat->Nat}(F:150<=n)(E:150<=m)(M:Im E1 al U):∃r A c b a,(run (TA q) n).call 1663 [.ref (al 1)] U=some (.ok r A)/\dQ (TA q) A (.ref (al 1)) (z "root") r=some c/\(run (TA q) m).call 1927 [.ref (al 1)] c=some (.ok (.ref (a N)) b)/\
 Wd 21 K0 false a b/\a 1=al 1/\b.get (a N)=some (.list (cP K0))/\Off a b (a N)/\U.length<=b.length/\(∀j,j<U.length->(∀i,i<8->al i≠j)->b.get j=U.get j/\∀i,i<N->a i≠j):=by
 have D:E1.length=8:=rfl
 have O:∀f,Rel f U.get (cJ E1) U->(∀i,i<E1.length->f i=al i)->RO f U.get (V.mp f) (xb Tt.tb RR RR 1 (cJ E1)) (xb (TA q) (run (TA q) n) (run (TA q) m) (al 1) U):=by
  intro f r B
  have l:∀i,i<8->f i=al i:=λi h=>B i (Nat.lt_of_lt_of_eq h D.symm)
  exact @Jf q n U m al U.get (cJ E1) F E f r l
 obtain⟨v,b,a,y,r,L⟩:=@j4 E1 Ei 8 [0,4,5] [] (λP R=>some ([],lay)) (some (.ref N)) (xb Tt.tb RR RR 1 (cJ E1)) al U (xb (TA q) (run (TA q) n) (run (TA q) m) (al 1) U) M O Jc
 rw[L _ rfl] at y
 unfold xb at y
 cases k:(run (TA q) n).call 1663 [.ref (al 1)] U with
 |none=>rw[k] at y;ext y
 |some x=>cases x with
  |exc G=>rw[k] at y;ext y
  |ok u A=>
   rw[k,bE] at y
   generalize w:dQ (TA q) A (.ref (al 1)) (z "root") u=zz at y
   cases zz with
   |none=>ext y
   |some c=>
    have C:∀i,i<8->a i=al i:=λi d=>r.kept i d List.not_mem_nil
    have t:N<Ei.length:=by rw[oX.1];lia
    refine⟨u,A,c,b,a,rfl,w,y,⟨?_,λj g s=>?_,λj g=>?_,.inl rfl⟩,C 1 (by decide),?_,⟨r.im.lt _ t,λi d e=>?_⟩,r.le,λj g h=>⟨r.fr j g λi d=>h i ?_,λi d e=>?_⟩⟩
    ·exact r.im.mono (by rw[cS,oX.1];omega) λi o e=>jq oX.2 e
    ·have p:j≠3:=λe=>by rw[e] at s;exact s rfl
     have:=List.all_eq_true.mp Jd j (by simp only[List.mem_cons,List.not_mem_nil,or_false];lia)
     have K:K0 j=710:=by
      unfold K0
      cases e:Nat.beq j 3
      ·rfl
      ·exact absurd (Nat.eq_of_beq_eq_true e) p
     rw[K]
     exact r.im.has _ _ (getD_some (j2 this))
    ·by_cases h:j=3
     ·exact .inr (.inr (.inr ⟨by rw[h];rfl,h⟩))
     ·refine .inl ⟨?_,h⟩
      unfold K0
      cases e:Nat.beq j 3
      ·rfl
      ·exact absurd (Nat.eq_of_beq_eq_true e) h
    ·refine r.im.has N (.list (cP K0)) ?_
     unfold Ei
     rw[List.getElem?_append_right]
     ·rfl
     ·have:=oX.1
      unfold Ei at this
      rw[List.length_append,List.length_singleton] at this
      lia
    ·have:=r.im.inj i N (by lia) t e;lia
    ·simp only[List.mem_cons,List.not_mem_nil,or_false] at d;lia
    ·have:=r.new i (by lia) (by rw[e];exact g)
     exact h i this.1 (by rw[←this.2,e])
theorem Jh{q}(v:V)(G:Hp):(run (TA q) (n+40)).call 1932 [v] G=callEnd ((run (TA q) (n+39)).ax (a_ [(z "script",v)] G.length) [rm,oJ,rn,eH,ry] (G.push (.cell .none))):=by rfl'
theorem Ji{q}{c d k:Nat}:∀(r i:Nat) (K:Nat->Nat) (t:Nat) (al:Nat->Nat) (U:Hp) (L:List (Str×V)) (b:Nat) (l:List Nat) (n:Nat),r+i=k->425+r<=n->LS c d K t al U L b l->
 ∃f a,(run (TA q) (n+41)).fr (a_ L c) (z "lap") (cU eH) (.cY 0 1 k) i U=some (.ok .next f a):=by
 intro r
 induction r with
 |zero=>
  intro i K t al U L b l n x y S
  obtain rfl:i=k:=by lia
  exact⟨L,U,og rC⟩
 |succ r B=>
  intro i K t al U L b l n x y S
  obtain⟨n,rfl⟩:∃k,n=k+1:=⟨n-1,by omega⟩
  obtain⟨v,h⟩:=wL (q:=q) (G:=U) (m:=k) (i:=i) (by lia)
  have S1:LS c d K t al U (put (z "lap") v L) b l:={S with has:=(S.has.put (z "lap") v).dH _ (by rfl')}
  obtain⟨p,D,g,a,f,j,C,e,u⟩:=Ja (q:=q) (n:=n+1) (by lia) S1
  obtain⟨s,o,w⟩:=B (i+1) p D g a f j C n (by lia) (by lia) u
  refine⟨s,o,?_⟩
  rw[oh (n:=n+1+40) h (Gs L c U v) e]
  exact w
theorem Jj(L:List (Str×V))(c:Nat)(a:Nat)(w:V)(h:G.get c=some (.cell .none)):dz (cV ([z "deck",z "world"].zip [.ref a,w]) (a_ L c) G)=some (.ok .next (put (z "world") w L) (G.set c (.cell (some (.ref a))))):=by
 show dz (cV [(z "deck",V.ref a),(z "world",w)] (a_ L c) G)=_
 unfold cV
 rw[rH (by rfl') (by rfl') h]
 show dz (cV [(z "world",w)] _ _)=_
 unfold cV
 rw[rI (by rfl')]
 rfl
theorem Jk{a:Nat}{xs:List Int}(hx:xs.length<4096)(G:Hp):∃H,(run (TA (some (a,xs.map .int))) 520).call 1932 [.old a] G=some (.ok (.bool true) H):=by
 generalize hq:(some (a,xs.map V.int):Option (Nat×List V))=q
 have t:=Jh (q:=q) (n:=480) (.old a) G
 have ae:(G.push (.cell .none)).get G.length=some (.cell .none):=Hp.cB _ _
 have aH:(G.push (.cell .none)).length=G.length+1:=Hp.length_push _ _
 generalize G.push (.cell .none)=v at*
 have k0:lk (z "script") [(z "script",V.old a)]=some (.old a):=by rfl'
 obtain⟨l,d,aA,R,hd,hl,aB,O,F⟩:=EX (a:=a) (xs:=xs) (n:=488+25) hx (by lia) v
 rw[hq] at R
 obtain⟨c,al,au,g,g3,u⟩:=Je (q:=q) (n:=488+25) (by lia) aA
 have e0:=Gm (q:=q) (n:=488) [(z "script",.old a)] G.length v
 have h2:(bS [V.ref d,.ref (al 1)].length&&!([V.ref d,.ref (al 1)]).isEmpty)=true:=rfl
 simp only[k0,Option.map_some,bE,R,au,h2,if_true,bK] at e0
 have aD:=Hp.cj hd
 have C:(c.push (.tup [.ref d,.ref (al 1)])).get G.length=some (.cell .none):=Hp.mE (g3.at (by rw[F _ (by omega)];exact ae))
 rw[ou (Hp.cB _ _) rfl,Jj _ _ _ _ C] at e0
 have x:=(bP.refl [(z "script",V.old a)]).put (z "world") (.ref (al 1))
 generalize put (z "world") (.ref (al 1)) [(z "script",V.old a)]=L at e0 x
 have g4:=g3.trans (Gr.push c (.tup [.ref d,.ref (al 1)]))
 have aj:((c.push (.tup [.ref d,.ref (al 1)])).set G.length (.cell (some (.ref d)))).get d=some (.list (l.map int)):=by
  rw[Hp.eg (by lia)];exact g4.at hd
 have af:((c.push (.tup [.ref d,.ref (al 1)])).set G.length (.cell (some (.ref d)))).get G.length=some (.cell (some (.ref d))):=Hp.eN (Hp.cj C)
 have ar:((c.push (.tup [.ref d,.ref (al 1)])).set G.length (.cell (some (.ref d)))).length=c.length+1:=by rw[Hp.length_set,Hp.length_push]
 have h8:∀i,i<E1.length->i<8:=λi h=>h
 have az:Im E1 al ((c.push (.tup [.ref d,.ref (al 1)])).set G.length (.cell (some (.ref d)))):=⟨g.inj,λi s=>by rw[ar];have:=g.lt i s;omega,λi o e=>by
  have s:=h8 i (List.getElem?_eq_some_iff.mp e).1
  rw[Hp.eg (λq=>by have:=u i s;lia),Hp.eT (g.lt i s)]
  exact g.has i o e⟩
 generalize(c.push (.tup [.ref d,.ref (al 1)])).set G.length (.cell (some (.ref d)))=ab at*
 obtain⟨r,A,aa,f,b,av,hs,aw,W,P,M,T,aC,p⟩:=Jg (q:=q) (n:=487+27) (m:=486+27) (by lia) (by lia) az
 have kw:lk (z "world") L=some (.ref (al 1)):=x _ _ (by rfl')
 have e1:=Gn (q:=q) (n:=487) L G.length ab
 simp only[kw,Option.map_some,bE,av,bK,hs,d0] at e1
 have e1:(run (TA q) (487+30)).ex (a_ L G.length) oJ ab=some (.ok .next L aa):=e1
 have e2:=Gp (q:=q) (n:=486) L G.length aa
 simp only[kw,Option.map_some,bE,aw,bK] at e2
 have x:=x.put (z "known") (.ref (b N))
 generalize put (z "known") (.ref (b N)) L=L1 at e2 x
 have aF:=O
 have aG:=g3.1
 obtain⟨ah,ai⟩:=p G.length (by lia) λi s=>by have:=u i s;lia
 obtain⟨ak,ao⟩:=p d (by lia) λi s=>by have:=u i s;lia
 have oc:Off b f G.length:=⟨by lia,ai⟩
 have od:Off b f d:=⟨by lia,ao⟩
 have D:f.get G.length=some (.cell (some (.ref d))):=by rw[ah];exact af
 have E:DK f d l:=by
  unfold DK
  rw[ak];exact aj
 have ag:G.length≠d:=by lia
 have e3:=Gq (q:=q) (n:=485) L1 G.length f
 have k1:name (TA q) (a_ L1 G.length) f (z "deck")=some (.ref d):=ky (by rfl') (by rfl') D
 obtain⟨k,l1,j,ay,hk,h6,aq,y⟩:=kb (q:=q) (m:=4) (n:=485+25) (by lia) (by lia) hl E (by lia)
 have B:bin .Add j (int 1) (int k) (TA q).bO=some (.ok (.int (.ofNat 1+.ofNat k)) j):=rfl
 simp only[k1,Option.map_some,bE,ay,B,wK k (by lia),bK] at e3
 have S:LS G.length d K0 21 b j L1 (b N) l1:=⟨by rw[P];exact x.dH _ (by rfl'),W.only y od,y.off oc,by rw[y.2 _ oc.1 ag];exact D,y.off od,h6,aq,y.off T,by
  rw[y.2 _ T.1 (λq=>wV (K:=K0) (by rw[←q];exact M) E)];exact M⟩
 obtain⟨L2,w,e4⟩:=Ji (q:=q) (k:=1+k) (1+k) 0 K0 21 b j L1 (b N) l1 473 (by lia) (by lia) S
 have e3:=e3.trans e4
 have e5:=GX (q:=q) (n:=484) L2 G.length w
 rw[bK] at e5
 refine⟨w,?_⟩
 have h1:(run (TA q) (480+39)).ax (a_ [(z "script",.old a)] G.length) [rm,oJ,rn,eH,ry] v=some (.ok (.ret (.bool true)) L2 w):=by
  rw[bJ (n:=488+30) e0,bJ (n:=487+30) e1,bJ (n:=486+30) e2,bJ (n:=485+30) e3,gP (n:=484+30) e5]
 exact t.trans ((congrArg callEnd h1).trans rfl)
end
end Mi
open PySem PySem.W
set_option maxHeartbeats 0
namespace Hd
noncomputable abbrev PS(w:World)(p:Program)(b:List Stmt)(o:OsState)(N x n t a m:Nat)(s:Pos)(c f:Nat)(e:Pos)(q d:Params->List (Nat×Obj)):Prop:=
 segRunT treeTable p w 11 (some (.ref 6)) 1 N (St x n t w.params (q w.params) o) (piecesOf (sl a m) Z (.body b Z) s [topFrame ⟨0,0,0,0⟩])=some (.next,St (x+1) c f w.params (d w.params) o,.body b Z,e)
theorem eK{w:World}{p:Program}{n:Nat}{S:SharedT}{t:Thread}{R:Flow×SharedT×Code×Pos}
 (h:PySem.W.Fast.tw10110043849684766642 PySem.W.Fast.tw14364793385576792824 p w 11 (some (.ref 6)) 1 n S t=some R):segRunT treeTable p w 11 (some (.ref 6)) 1 n S t=some R:=by
 rw[PySem.W.Fast.te10110043849684766642,PySem.W.Fast.te14364793385576792824];exact h
theorem p0(w p b os):PS w p b os 1493 0 15 187 0 17 ⟨0,0,0,0⟩ 140 375 ⟨38,0,49,16⟩ q0 q1:=eK (by rfl')
theorem p1(w p b os):PS w p b os 1362 1 140 375 17 4 ⟨38,0,49,16⟩ 286 568 ⟨87,0,106,16⟩ q1 q2:=eK (by rfl')
theorem p2(w p b os):PS w p b os 1419 2 286 568 21 9 ⟨87,0,106,16⟩ 403 733 ⟨139,0,143,24⟩ q2 q3:=eK (by rfl')
theorem p3(w p b os):PS w p b os 1414 3 403 733 30 9 ⟨139,0,143,24⟩ 572 961 ⟨213,0,213,8⟩ q3 q4:=eK (by rfl')
theorem p4(w p b os):PS w p b os 1418 4 572 961 39 10 ⟨213,0,213,8⟩ 694 1153 ⟨243,0,250,69⟩ q4 q5:=eK (by rfl')
theorem p5(w p b os):PS w p b os 1475 5 694 1153 49 11 ⟨243,0,250,69⟩ 876 1399 ⟨328,0,337,16⟩ q5 q6:=eK (by rfl')
theorem p6(w p b os):PS w p b os 1482 6 876 1399 60 29 ⟨328,0,337,16⟩ 1081 1728 ⟨563,0,578,16⟩ q6 q7:=eK (by rfl')
theorem p7(w p b os):PS w p b os 1482 7 1081 1728 89 32 ⟨563,0,578,16⟩ 1320 2112 ⟨826,0,830,72⟩ q7 q8:=eK (by rfl')
theorem p8(w p b os):PS w p b os 466 8 1320 2112 121 8 ⟨826,0,830,72⟩ 1390 2230 ⟨879,0,884,51⟩ q8 q9:=eK (by rfl')
theorem p9(w p b os):PS w p b os 155 9 1390 2230 129 1 ⟨879,0,884,51⟩ 1391 2249 ⟨885,0,885,10⟩ q9 qf:=byRow2 "special-get-raises" (P:=λw=>PS w p b os 155 9 1390 2230 129 1 ⟨879,0,884,51⟩ 1391 2249 ⟨885,0,885,10⟩ q9 qf) (λw=>eK (by rfl')) (λw=>eK (by rfl')) w
theorem Jl(w p b os):PS w p b os 1448 10 1391 2249 130 29 ⟨885,0,885,10⟩ 1655 2676 ⟨1136,0,1140,40⟩ qf qg:=eK (by rfl')
theorem Jm(w p b os):PS w p b os 171 11 1655 2676 159 1 ⟨1136,0,1140,40⟩ 1656 2697 ⟨1141,0,1141,7⟩ qg qh:=byRow2 "special-get-raises" (P:=λw=>PS w p b os 171 11 1655 2676 159 1 ⟨1136,0,1140,40⟩ 1656 2697 ⟨1141,0,1141,7⟩ qg qh) (λw=>eK (by rfl')) (λw=>eK (by rfl')) w
theorem Jn(w p b os):PS w p b os 1498 12 1656 2697 160 17 ⟨1141,0,1141,7⟩ 1898 3072 ⟨1321,0,1356,17⟩ qh ug:=eK (by rfl')
theorem Jo(w p b os):PS w p b os 196 13 1898 3072 177 8 ⟨1321,0,1356,17⟩ 1933 3127 ⟨1391,0,1413,15⟩ ug qi:=eK (by rfl')
end Hd
open PySem PySem.W PyProof.Rows PySem.Calls
set_option maxHeartbeats 0
namespace Hd
noncomputable section
noncomputable abbrev pw:Program:=PySem.Challenge.pw_pq1046_01
def qv:Program:={pw with main:={pw.main with body:=Bd.drop 184}}
noncomputable def fJ:List Str:=["_wall","CONST","LOCAL","GLOBAL","SET_LOCAL","SET_GLOBAL","DEFINE","IF","LAMBDA","CALL","SEQ","Node","Const","Local","Global","SetLocal","SetGlobal","Define","If","Lambda","Call","Seq","Special","Special_data","EMPTY","UNSPECIFIED","UNASSIGNED","Symbol","SymbolTable","Pair","Char","Text","Vector","list_of","split_list","is_whole","SchemeError","SyntaxTrouble","MachineFault","Real","Ratio","MOST_DEEP","Alias","Special_scopes","LocalName","GlobalName","Macro","is_identifier","key_of","root_symbol","is_named","Scope","same_denotation","same","first_twice","alias_of","strip_one","strip","NAME","LITERAL","ATOM","ROW","CELLS","ALIAS","MANY","NOTHING","MOST_NESTED","MOST_WRITTEN","ELLIPSIS","RULES_WORD","Rule","is_ellipsis","PatternReader","TemplateReader","names_in","literal_keys","need_flat","read_rule","is_rules_word","read_rules","same_atom","Matcher","match","Writer","going_on","first_fitting","transcribed","MAKE_IF","MAKE_CALL","MAKE_SEQ","MAKE_LAMBDA","MAKE_SET_LOCAL","MAKE_SET_GLOBAL","MAKE_LETREC","MAKE_DEFINE","parts_of","seq_of","is_steady","kept_values","letrec_of","made","reference","need_identifier","formals_of","bound_local","do_quote","do_if","do_lambda","leave_procedure","do_set","do_begin","leave_sequence","do_misplaced","syntax_binding","bind_keywords","do_let_syntax","do_letrec_syntax","Definition","definition_of","leave_value","CORE_RULES","UNQUOTE","SPLICE","QUASIQUOTE","Template","quasi","word_of","things_of","inner_list","is_word","bindings_of","sequence","choice","procedure","kept","do_and","do_or","do_let","do_let_star","do_letrec","cond_clause","do_cond","case_test","do_case","step_of","do_do","do_delay","do_quasiquote","DERIVED","EXPAND","BODY","MAKE","PROCEDURE","MOST_USES","KEYWORDS","root_scope","is_plain","keyword_of","Walk","defined_at_top","bind_at_top","expand_top","nodes_at_top","Names","_law_names","_law_deck","_law_draw","_law_datum","_law_part","_law_meanings"].map Str.ofString
noncomputable abbrev ann:Option Value:=some (.ref 6)
noncomputable abbrev S0(w:World)(o:OsState):Shared:=⟨boot_heap w.params, #[],boot_drawn,boot_toks,o⟩
abbrev H1(P:Params):Heap:=absHeap (tr 14 1933 P (qi P)) 1933 {}
abbrev S1(w:World)(o:OsState):Shared:=⟨H1 w.params, #[],{},3127,o⟩
abbrev cE:Code:=.body Bd Z
noncomputable abbrev tf:List Frame:=[topFrame ⟨0,0,0,0⟩]
theorem pre(w:World)(o:OsState):topGo treeTable pw w 11 ann 12 (S0 w o) (topStub pw)=some ((St 0 15 187 w.params (q0 w.params) o).abs,⟨denote treeTable cE,cE,⟨0,0,0,0⟩,tf⟩):=by
 rw[PySem.W.Fast.te14364793385576792824,PySem.W.Fast.te15667345088766844465,PySem.W.Fast.te11892475500146522536];rfl'
theorem lR(w:World)(S:Shared):segRun treeTable pw w 11 ann 1 1 S (blockOf Bd Z cE ⟨0,0,0,0⟩ tf)=some (.next,S,cE,⟨0,0,0,0⟩):=by rfl'
theorem app{w:World}{x m n N:Nat}{S a:SharedT}{o p:Pos}{R:Shared}(h:segRunT treeTable pw w 11 ann 1 n S (piecesOf (sl x m) Z cE o tf)=some (.next,a,cE,p))
 (k:topRun treeTable pw w 11 ann N a.abs (restOf (Bd.drop (x+m)) Z cE p tf)=some R):topRun treeTable pw w 11 ann (n+N) S.abs (restOf (Bd.drop x) Z cE o tf)=some R:=by
 have e:Bd.drop x=sl x m++Bd.drop (x+m):=by
  show Bd.drop x=(Bd.drop x).take m++Bd.drop (x+m)
  rw[←List.drop_drop,List.take_append_drop]
 rw[e]
 exact piece_app (segRun_of h) k
theorem fin(w:World)(S:Shared)(p:Pos):topRun treeTable pw w 11 ann 2 S (restOf (Bd.drop 185) Z cE p tf)=some S:=by
 have e:Bd.drop 185=[]:=by rfl'
 rw[e]
 exact piece_nil rfl
noncomputable def M0:Nat:=12+(1+(1493+(1362+(1419+(1414+(1418+(1475+(1482+(1482+(466+(155+(1448+(171+(1498+(196+2)))))))))))))))
theorem run(w:World)(o:OsState):topRun treeTable pw w 11 ann M0 (S0 w o) (topStub pw)=some (S1 w o):=
 go_top (pre w o) (piece_block (lR w _) (app (p0 w pw Bd o) (app (p1 w pw Bd o) (app (p2 w pw Bd o) (app (p3 w pw Bd o) (app (p4 w pw Bd o) (app (p5 w pw Bd o) (app (p6 w pw Bd o) (app (p7 w pw Bd o) (app (p8 w pw Bd o) (app (p9 w pw Bd o) (app (Jl w pw Bd o) (app (Jm w pw Bd o) (app (Jn w pw Bd o) (app (Jo w pw Bd o) (fin w _ _))))))))))))))))
theorem Jp(w:World)(o:OsState):seen ((recsOf qv).map (·.name)) (ownsOf qv) [] {S1 w o with gens:= #[]}=expectedOf qv:=by
 rw[PySem.W.Fast.te5991557255702980513,PySem.W.Fast.te3399658132070893891,PySem.W.Fast.te5160383126252970620];rfl'
theorem Jq(w:World)(o:OsState):(S1 w o).heap.bltView=bltViewBooted:=by rfl'
theorem Jr(w:World)(o:OsState):(S1 w o).heap.keysOk (looseW qv fJ) ((recsOf qv).map (·.name)) ((litsOf qv).map (·.1)) ((clssOf qv (looseW qv fJ)).map (·.name))=true:=by
 rw[PySem.W.Fast.te13664370479719496447,PySem.W.Fast.te7409074990110511671,PySem.W.Fast.te3399658132070893891,PySem.W.Fast.te821141287760084731,PySem.W.Fast.te10880121769531294198];rfl'
theorem Js(w:World)(o:OsState):(S1 w o).heap.accountedOkI (importedModules pw.main.body)=true:=by
 rw[PySem.W.Fast.te5923862056798008813,PySem.W.Fast.te14722251495701143533];rfl'
theorem Jt(w:World)(o:OsState):((S1 w o).heap.isNs mainGlobals&&(S1 w o).heap.isNs builtinsNs&&tablesOk qv (S1 w o).heap)=true:=by
 rw[PySem.W.Fast.te10994771534591457954];rfl'
theorem Ju(w:World)(o:OsState):tabsOk qv (S1 w o)=true:=by
 rw[PySem.W.Fast.te479339242167458305];rfl'
theorem Jv(w:World)(o:OsState):pinSeenD qv (drecsOf qv) (S1 w o)=pinGoodD (drecsOf qv):=by
 rw[PySem.W.Fast.te3247288618530077131,PySem.W.Fast.te16090120013241838585];rfl'
theorem Jw(w:World)(o:OsState):plainSeenE qv (looseW qv fJ) (S1 w o)=plainGoodE qv (looseW qv fJ):=by
 rw[PySem.W.Fast.te821141287760084731,PySem.W.Fast.te2386780881361962483];rfl'
theorem Jx(w:World)(o:OsState):plainSeenD qv fJ (S1 w o)=plainGoodD qv fJ:=by
 rw[PySem.W.Fast.te11698064438423848299];rfl'
theorem Jy(w:World)(o:OsState):wideSeen qv (S1 w o)=wideGood qv:=by
 rw[PySem.W.Fast.te7317090234206586261];rfl'
theorem Jz(w:World)(o:OsState):clsSeenW qv fJ (S1 w o)=clsGoodW qv fJ:=by
 rw[PySem.W.Fast.te7369524293546568484];rfl'
theorem J8:(chainsOk qv&&opensWell pw)=true:=by rfl'
theorem JA(w:World)(o:OsState):staticsOk (importedModules pw.main.body) (boot_heap w.params) (S1 w o).heap=true:=by
 rw[PySem.W.Fast.te5923862056798008813];rfl'
theorem JB(w:World)(o:OsState):namesBound pw (S1 w o).heap=true:=by
 unfold namesBound
 rw[PySem.W.Fast.te18344453789297297638,PySem.W.Fast.te12749700546528644094,PySem.W.Fast.sDec_eq];rfl'
theorem JC(w:World)(o:OsState):laidKept (boot_heap w.params) (S1 w o).heap=true:=by rfl'
theorem JD(w:World):((boot_heap w.params).isNs mainGlobals&&(#[]:Array GenState).size==0,(boot_heap w.params).objs.size,(boot_heap w.params).nsMap mainGlobals "__annotations__")=(true,11,ann):=by
 rw[PySem.W.Fast.te8920871248978507458];rfl'
theorem JE:∀w:World,(fencedOpening treeTable pw w 40000).map (λs=>(s.heap,s.gens,s.drawn,s.toks))=some (boot_heap w.params,Array.mk [],boot_drawn,boot_toks):=
 boot_open (by rfl') (by decide) (λa=>by rfl')
end
end Hd
open PySem PySem.W PyProof.Rows PySem.Calls
set_option maxHeartbeats 0
namespace Hd
noncomputable section
noncomputable def iu:List Nat:=List.range 1933
def K(P:Params):Frag:=iu.map λa=>(a,ob P a)
theorem JF(P:Params):(iu.all λa=>match(ob P a).data with|.freed=>false|_=>true)=true:=by rfl'
theorem JG{i p:Nat}(h:i<2*p-1)(b:i % 2=1):i/2<p-1:=by
 have e:i+1=2*(i/2+1):=(congrArg (·+1) (Nat.div_add_mod i 2).symm).trans (by rw[b];rfl)
 exact Nat.lt_sub_of_add_lt (Nat.lt_of_mul_lt_mul_left (a:=2) (e▸Nat.add_lt_of_lt_sub h))
theorem rR{i:Nat}(h:¬i % 2=1):i=2*(i/2):=
 (Nat.div_add_mod i 2).symm.trans (by rw[(Nat.mod_two_eq_zero_or_one i).resolve_right h];rfl)
theorem wY{i:Nat}(h:¬i=0)(a:¬i % 2=1):0<i/2:=Nat.pos_of_ne_zero λq=>h ((rR a).trans (by rw[q]))
theorem JH{i p:Nat}(h:i<2*p-1)(c:¬i=0)(b:¬i % 2=1):i/2-1<p-1:=
 Nat.sub_lt_sub_right (wY c b) (Nat.lt_of_mul_lt_mul_left (a:=2) (rR b▸Nat.lt_of_lt_of_le h (Nat.sub_le _ _)))
theorem JI{i:Nat}(a:¬i=0)(h:¬i % 2=1):i=2*(i/2-1)+2:=
 (rR h).trans (congrArg (2*·) (Nat.sub_add_cancel (wY a h)).symm)
theorem lv(P:Params)(f:Nat):∀(n s b id i:Nat),i<2^f-1->s*i+b<n->0<s->(mm f n P [] s b id).get i=some (ob P (s*i+b)):=by
 induction f with
 |zero=>exactλn s b id i h=>absurd h (by simp)
 |succ f L=>
 intro n s b id i h g l
 have k:Nat.blt b n=true:=Nat.ble_eq_true_of_le (Nat.lt_of_le_of_lt (Nat.le_add_left b _) g)
 show(@Bool.rec (λm=>BT) .nil (.node (look P [] b id) (mm f n P [] (Nat.mul 2 s) (Nat.add s b) id) (mm f n P [] (Nat.mul 2 s) (Nat.add (Nat.mul 2 s) b) id)) (Nat.blt b n)).get i=_
 rw[k]
 show(BT.node (ob P b) (mm f n P [] (2*s) (s+b) id) (mm f n P [] (2*s) (2*s+b) id)).get i=_
 rw[BT.get_node]
 rw[Nat.pow_succ,Nat.mul_comm] at h
 by_cases d:i=0
 ·subst d;simp
 ·rw[if_neg d]
  have j:0<2*s:=Nat.mul_pos (by decide) l
  by_cases a:i % 2=1
  ·rw[if_pos a]
   have c:2*s*(i/2)+(s+b)=s*i+b:=by
    have e:s*i=s*(2*(i/2)+1):=congrArg _ (by rw[←a];exact(Nat.div_add_mod i 2).symm)
    rw[e,Nat.mul_add,Nat.mul_one,←Nat.mul_assoc,Nat.mul_comm s 2,Nat.add_assoc]
   rw[L n (2*s) (s+b) id (i/2) (JG h a) (by rw[c];exact g) j,c]
  ·rw[if_neg a]
   have c:2*s*(i/2-1)+(2*s+b)=s*i+b:=by
    have e:s*i=s*(2*(i/2-1)+2):=congrArg _ (JI d a)
    rw[e,Nat.mul_add,←Nat.mul_assoc,Nat.mul_comm s 2,Nat.add_assoc]
   rw[L n (2*s) (2*s+b) id (i/2-1) (JH h d a) (by rw[c];exact g) j,c]
theorem JJ(P:Params){a:Nat}(h:a<1933):(H1 P).get? a=some (ob P a):=by
 have g:(tr 14 1933 P (qi P)).get a=some (ob P a):=by
  have:=lv P 12 1933 1 0 14 a (by lia) (by lia) (by lia)
  rw[Nat.one_mul,Nat.add_zero] at this
  exact this
 rw[abs_get h g]
 have:=List.all_eq_true.mp (JF P) a (List.mem_range.mpr h)
 revert this
 obtain⟨c,d,t,s⟩:=ob P a
 cases t<;>intro q<;>first|rfl|specialize q
abbrev Yf(s:Shared):List (Option Obj):=iu.map s.heap.get?
abbrev Ya(w:World):List (Option Obj):=(K w.params).map λp=>some p.2
theorem JK(w:World)(o:OsState):Yf (S1 w o)=Ya w:=by
 show iu.map (H1 w.params).get?=((iu.map λa=>(a,ob w.params a)).map λp=>some p.2)
 rw[List.map_map]
 refine List.map_congr_left λa h=>?_
 exact JJ w.params (List.mem_range.mp h)
theorem left:LeftO pw qv fJ (λd=>true) Yf Ya 40000:=by
 refine LeftO.of_pieces (H₀:=boot_heap) (H₁:=H1) (gs₀:=Array.mk []) (gs₁:= #[]) (d₀:=boot_drawn) (d₁:={}) (k₀:=boot_toks) (k₁:=3127) (m₀:=11) (ann:=ann) (M:=M0) JE JD run (by decide+kernel) λw=>?_
 funext os
 refine Prod.ext ?_ (Prod.ext ?_ (JK w os))
 ·show(staticsOk (importedModules pw.main.body) (boot_heap w.params) (S1 w os).heap&&namesBound pw (S1 w os).heap&&gensDone (S1 w os)&&laidKept (boot_heap w.params) (S1 w os).heap)=true
  rw[JA,JB,JC];rfl
 ·show openSeen qv fJ (importedModules pw.main.body) (λd=>true) true (S1 w os)=openGood qv fJ
  unfold openSeen openGood
  rw[Jp,Jq,Jr,Js,Ju,Jv,Jw,Jx,Jy,Jz]
  have:=Jt w os
  simp only[Bool.and_eq_true] at this
  obtain⟨⟨a,b⟩,c⟩:=this
  rw[a,b,c];rfl
end
end Hd
namespace Sd
open PySem PySem.W PyProof.Rows PySem.Calls Mi
section
variable{J:Program}{w:World}{A:Around}{E:Value->Shared->Prop}{s:Shared}{T:Tb}{K:Frag}{cls:Value}{n:Nat}{Fn:Fs}
theorem JL{a:Nat}{f:Mi.Fn}{m:List V}{ys:List Value}{Q:Value->Shared->Prop}{ae:Hp}(ao:Gd J w T K s.heap)(O:fT K a f)(hx:fw J w s.heap cls n Fn.ax)(hA:A.frames=some [])(hh:A.handled=none)(hd:A.depth+1+n<990)(hu:A.units+3+10*n<9400)
 (e:iB Fn f m ⟨0,.e⟩=some (.ok (.bool true) ae))(hv:All2 (VR []) m ys)(k:∀h' tk,s.heap.StaysIn h'->Q (.bool true) {s with heap:=h',toks:=tk}):codeAny (model J w) A (.call (.ref a) ⟨ys,[]⟩) (wants Q E) s:=by
 unfold iB at e
 split at e
 case isFalse=>cases e
 rename_i hlen
 obtain⟨l1,l2⟩:=Bool.and_eq_true_iff.mp hlen
 have l1:=Nat.ble_eq.mp l1
 have l2:=Nat.ble_eq.mp l2
 have la:m.length=ys.length:=hv.length
 obtain⟨oc,od,ah,u,B,F,dV,kV,ag,pm,an,I,ct,hK,o,l⟩:=O.ex
 have aq:K.In s.heap:=ao.k
 obtain⟨M,N,hb⟩:=l s ys aq (by lia) (by lia)
 have r:A.depth<recursionLimit:=by show A.depth<1000;lia
 refine codeAny_call_function r (aq _ _ hK) rfl O.co O.gen rfl (codeRec_of aq o) (hb _ _ _ _ ?_)
 split at e
 rename_i ak cs R
 simp only[newFunctionEnv,Option.isSome_none,Bool.false_eq_true,if_false]
 refine wpAny_bind (wpAny_alloc ?_)
 refine wpAny_bind (wpAny_layCells _ (λu kind L=>by cases P:kind==NameKind.cell<;>simp[P]) _ _ _ _ ?_)
 rw[show({s with heap:=s.heap.push {cls:=.type "frame",data:=.dict #[]}}:Shared).heap.objs.size=s.heap.objs.size+1 from Heap.size_push ..]
 obtain⟨b,d⟩:∃b:Env,b={scope:=f.sc,locals:=s.heap.objs.size,globals:=mainGlobals,cells:=cellsFrom (s.heap.objs.size+1) f.sc.names [],qual:=B++Str.ofString ".<locals>.",func:=some a,code:=I,frame:=some s.heap.objs.size,builtins:=builtinsNs}:=⟨_,rfl⟩
 have p:b.frame=some s.heap.objs.size:=by rw[d]
 have S1:=Ct (J:=J) (w:=w) (h:=s.heap) (env':=b) p (by rw[d];exact O.kind)
 obtain⟨c,S2,P2,H⟩:=tj f.sc.names S1 (cs:=[]) (acc:=[]) .nil
 rw[R] at S2 H
 rw[Heap.size_push] at H
 have N2:bG b ⟨f.sc.names,[],cs⟩ [b] s.heap.objs.size c:=by
  subst d
  exact⟨O.kind,rfl,rfl,rfl,rfl,⟨_,_,_,rfl,rfl,rfl⟩,λx i _ q=>tl H x i q⟩
 have ab:All2 (VR c) (m++f.dflt.drop (f.dflt.length-(f.ps.length-m.length))) (ys++M.drop (f.dflt.length-(f.ps.length-ys.length))):=by
  rw[la]
  exact(hv.mono λ_ _ q=>q.pre (hO c)).append ((N.mono λ_ _ q=>q.pre (hO c)).drop _)
 split at e
 case h_2=>cases e
 rename_i g D aa
 refine wpAny_bind ?_
 rw[←d]
 refine wpAny_mono (te (Q:=λ_ s'=>∃j C,s'={s with heap:=j,toks:=C}/\Sg J w s.heap [b] s.heap.objs.size c D g.loc j/\Step c [s.heap.objs.size] (pushCells (s.heap.push {cls:=.type "frame",data:=.dict #[]}) f.sc.names) c j/\bG b g [b] s.heap.objs.size c)
  (tm f.ps ab) (s:={s with heap:=pushCells (s.heap.push {cls:=.type "frame",data:=.dict #[]}) f.sc.names}) S2 N2 aa (λj C S P3 N3=>⟨j,C,rfl,S,P3,N3⟩)) (λ_ s' hh=>?_) (λ_ _ x=>x)
 ·obtain⟨j,C,rfl,S,P3,N3⟩:=hh
  refine wpAny_pure ⟨ao.nolimit.keeps S.keep,?_⟩
  refine codeAny_func ?_
  have R1:Rm (A.deeper b) [b] n:=⟨Around.frames_deeper hA,‹A.handled=none›,by show A.depth+1+n<990;omega,by show A.units+3+10*n<9400;omega⟩
  cases W:Fn.ax g f.body D with
  |none=>rw[W] at e;cases e
  |some rr=>
   rw[W] at e
   refine hx (s:={s with heap:=j,toks:=C}) R1 ⟨[],rfl,p⟩ S N3 W ?_
   cases rr with
   |ok fl t af=>
    intro aj h4 t4 y ai S4 p4
    cases fl with
    |next=>cases e
    |ret v=>
     cases e
     obtain⟨z,rfl,hz⟩:=p4
     cases hz
     exact k h4 t4 S4.keep
    |brk=>cases e
    |cont=>cases e
   |exc t af=>cases e
end
end Sd
namespace Hd
open PySem PySem.W PyProof.Rows PySem.Calls Mi Sd Gr
noncomputable section
noncomputable abbrev kC:OpenLaw:=PySem.Challenge.rw_pq1046_01
def jC:DefRec×List (Str×Expr):=((defOf qv (Str.ofString "law")).getD ⟨⟨Str.ofString "",default,[],default,default⟩,[]⟩)
theorem wZ:defOf qv kC.row.name=some (jC.1,jC.2):=by rfl'
abbrev JM:Prop:=WalkO qv fJ (λa b=>True) (λw h=>(K w.params).In h) kC.row.toRowW jC.1 jC.2 λf v=>PySem.call f v
end
theorem w0{f:Nat->Obj}:∀{l:List Nat} {a:Nat},(l.map λa=>(a,f a)).lookup a=if a∈l then some (f a) else none:=by
 intro l a
 induction l with
 |nil=>simp
 |cons b l i=>
  rw[List.map_cons,List.lookup_cons,i]
  by_cases h:a=b
  ·subst h;simp
  ·rw[beq_eq_false_iff_ne.mpr h]
   simp[h]
theorem JN:(uh.all λa=>Nat.ble (Nat.succ a) 1933)=true:=by decide+kernel
theorem JO{P:Params}{h:Heap}(c:(K P).In h):(Gr.K2 P).In h:=by
 intro a o e
 unfold Gr.K2 at e
 rw[w0] at e
 split at e
 ·rename_i b
  cases e
  refine c a _ ?_
  unfold K
  rw[w0,if_pos]
  unfold iu
  exact List.mem_range.mpr (Nat.le_of_ble_eq_true (List.all_eq_true.mp JN a b))
 ·cases e
theorem JP(P:Params):nsIn (Gr.K2 P) 3 (Str.ofString "law")=some (some (.ref 1932)):=by rfl'
theorem JQ{P:Params}{h:Heap}{s:List Int}{v:List Value}(w:WellAll P h v (s.map WData.int)):All2 (VR []) (s.map V.int) v:=by
 induction s generalizing v with
 |nil=>cases w;exact .nil
 |cons n s i=>
  cases w with
  |cons a b=>
   cases a
   exact .cons ⟨_,rfl⟩ (i b)
theorem w4:Tt.tb.fn 1932=some (jm (Tt.gL.get 1932|>.getD (0,0,[])).1 (Tt.gL.get 1932|>.getD (0,0,[])).2.1 (Tt.gL.get 1932|>.getD (0,0,[])).2.2):=by rfl'
theorem walk:JM:=by
 intro w j b mg mb ab af a o pm cd N dV kV h2 h3 h4 h5 O P args M as y K aa p L
 have ae:=JO af
 have m:jC.1.name=Str.ofString "law" :=defOf_name wZ
 have u:a=1932:=by
  have:=qp ae ab.T.g (JP w.params)
  rw[←m,O] at this
  cases this;rfl
 subst u
 obtain⟨p1,p2⟩:=pre_splitW y
 obtain⟨d,r,rfl,hd,hr⟩:=hasAllW_cons p1
 obtain rfl:=hasAllW_nil hr
 obtain⟨xs,rfl,hx⟩:=hasW_list hd
 obtain⟨c,rfl⟩:=items_int hx
 have x:c.length<4096:=by
  have q:(OpenLaw.pre kC).holds [] {args:=[.list (c.map .int)]}=true:=p2
  by_cases h:c.length<=63
  ·omega
  ·exfalso
   have:¬((63:Int)<(c.length:Int)):=by
    intro R
    simp[OpenLaw.pre,PySem.Challenge.rw_pq1046_01,WTm.holds,WTm.value] at q
    rw[show less? (WData.int 63) (WData.int (c.length:Int))=some (decide ((63:Int)<(c.length:Int))) from rfl,decide_eq_true R] at q
    cases q
   lia
 cases p with
 |cons k C=>
 cases C
 cases k with
 |list hl D=>
 rename_i l vs
 have u:∃ys n,b.heap.get? l=some {cls:=.type "list",dict:=none,data:=.seq ys n,slots:= #[]}/\All2 (VR []) (c.map V.int) ys.toList:=⟨vs.toArray,_,hl,by simpa using JQ D⟩
 have F:=Top.nolimit ab.T
 have W:=Cs (J:=kC.row.toRowW.prog) (w:=w) ae F u
 have S:=specs W 519
 obtain⟨I,e⟩:=Mi.Jk (a:=l) (xs:=c) x ⟨0,.e⟩
 have e:iC (lI l (c.map V.int)) (Mi.run (lI l (c.map V.int)) 519) 1932 [.old l] ⟨0,.e⟩=some (.ok (.bool true) I):=e
 unfold iC at e
 rw[show(lI l (c.map V.int)).fn 1932=some _ from w4] at e
 refine enter_call ?_
 refine codeAny_mono (JL (J:=kC.row.toRowW.prog) (w:=w) (s:=b) (A:=callerA) (E:=λ_ _=>False) (Q:=λv t=>v=.bool true/\∃i tk,t={b with heap:=i,toks:=tk}/\b.heap.StaysIn i) W.g (W.fn 1932 _ w4) S.ax rfl rfl (by decide) (by decide) e (.cons rfl .nil) (λi tk B=>⟨rfl,i,tk,rfl,B⟩)) ?_
 intro H t k
 have z:∀v,wants (λv t=>v=Value.bool true/\∃i tk,t={b with heap:=i,toks:=tk}/\b.heap.StaysIn i) (λ_ _=>False) (.ok (.ret v)) t->GoodWG kC.row.toRowW.claim (classAt j.heap) (ExcName.means j.heap) [WData.list (c.map WData.int)] b (.ok (.ret v)) t:=by
  intro v k
  obtain⟨rfl,i,tk,rfl,B⟩:=k
  exact⟨.inl ⟨.bool true,.bool true,[],rfl,λ_=>rfl,.bool true,by rfl',λ_=>⟨List.nodup_nil,λa u=>nomatch u⟩⟩,OldK.of_keep B,rfl,.of_eq P⟩
 rcases H with e|f
 ·exact k.elim
 ·cases f with
  |ret v=>exact z v k
  |_=>exact k.elim
end Hd
open PySem PySem.W PyProof.Rows PySem.Calls
set_option maxHeartbeats 0
namespace Hd
noncomputable abbrev lw:OpenLaw:=PySem.Challenge.rw_pq1046_01
abbrev pq:Program:=lw.row.toRowW.prog
theorem JR:namesResolve pq=true:=by rewrite[PySem.W.Fast.te8377067652309620493];rfl'
theorem ro:(["vars","dir","locals"]:List Str).filter (readsOut pq pq.main.body)=[]:=by
 rewrite[PySem.W.Fast.te13343964577679436407];rfl'
theorem JS:noRoadLSs {strict:=!(importedModules pq.main.body).all cThrough.contains,foot:=none,bare:=(["vars","dir","locals"]:List Str).filter (readsOut pq pq.main.body)} pq.main.body=true:=by
 rewrite[ro,PySem.W.Fast.te5923862056798008813,PySem.W.Fast.te8326940854005059898,PySem.W.Fast.sDec_eq];rfl'
theorem JT:(namesMeet pq pq.main.body λa n=>attrL n)=true:=by rewrite[PySem.W.Fast.te17868728402115742887,PySem.W.Fast.te17119622794617984870];rfl'
theorem JU:namesMeet lw.prog lw.above (λa n=>!lw.own.contains n)=true:=by
 rewrite[PySem.W.Fast.te10792542408131684335,PySem.W.Fast.te17119622794617984870,PySem.W.Fast.sDec_eq];rfl'
theorem JV:lw.wellSaid=true:=by
 unfold OpenLaw.wellSaid OpenRow.wellSaid OpenRow.partSaid looksOpen
 rewrite[JR,JS,JT,JU,PySem.W.Fast.named_eq,PySem.W.Fast.te14412699480532031325,PySem.W.Fast.te18344453789297297638,PySem.W.Fast.te797321630700447069,PySem.W.Fast.te8179353310426384613,PySem.W.Fast.te8326940854005059898,PySem.W.Fast.sDec_eq];rfl'
theorem JW:TablesWhole.wModule TablesWhole.holds pq.main=true:=by
 rewrite[PySem.W.Fast.te6116379765354995101]
 unfold TablesWhole.holds
 rewrite[PySem.W.Fast.te15985051520779696433]
 rfl'
theorem whole:pq.tablesWhole=true:=by
 unfold Program.tablesWhole TablesWhole.wProgram
 rewrite[JW];rfl'
end Hd
end Own.Internal
open Own.Internal
open PySem PySem.W PyProof.Rows PySem.Calls
set_option maxHeartbeats 0
theorem PySem.Challenge.cw_pq1046_01_holds : PySem.Challenge.rw_pq1046_01.Holds := by
 w_on
 refine holds_law Hd.JV λi=>?_
 refine holds_open (q:=Hd.qv) (loose:=Hd.fJ) (Xt:=λc=>true) (XP:=λc f=>True) (Yf:=Hd.Yf) (Ya:=Hd.Ya) (YP:=λw h=>(Hd.K w.params).In h) (N:=40000) (d:=Hd.jC.1) (kwd:=Hd.jC.2)
  Hd.left ?b (λc f g x k=>x.keeps k) (λc f=>trivial) (λc f g j l=>trivial) Hd.wZ (by rfl') (by rfl') (λc f=>recFacts_nil rfl) rfl (by assumption) (by rfl') ⟨rfl,rfl,rfl,rfl,rfl,Hd.whole⟩ ?hw Hd.walk
 case hw=>w_witness2
 case b=>
  intro w s e
  refine Frag.in_of (as:=Hd.iu) ?_ e
  show Hd.iu=(Hd.iu.map λa=>(a,Hd.ob w.params a)).map (·.1)
  rewrite[List.map_map]
  exact(List.map_id' _).symm
