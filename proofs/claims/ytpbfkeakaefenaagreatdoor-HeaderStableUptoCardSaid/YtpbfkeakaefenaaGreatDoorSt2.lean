/-
  The law HeaderStable (part 2 of 8).
-/
import Derived.Test.YtpbfkeakaefenaaGreatDoorSt1
set_option linter.constructorNameAsVariable false
set_option linter.unusedVariables false
set_option linter.unusedSimpArgs false
namespace Go.Oe
open Go.Wk
open Go.Ce (Tr)
open Go.IntKind renaming wrap → zac
open Go.Op renaming bytesLess → zaL
open Int renaming toNat → zan
open List renaming drop → zaC, set → zaJ, take → zbt
open Nat renaming beq → zav, blt → zbh, eq_of_beq_eq_true → zag, succ → zbk
open Sum renaming elim → zaO
open UInt8 renaming ofNat → zbm
noncomputable section
inductive Ty where
 |i' (k:IntKind)
 |c'
 |s'
 |b'
 |u'
 |w' (x:Ty)
 |pr (x y:Ty)
 |sm (x y:Ty)
 |l' (e by_:Nat) (x:Ty)
 |y'
 |r' (x:Ty)
 |p' (e:Nat) (x:Ty)
 |z'
 |o' (j:Nat)
 |f' (k:Nat) (x:Ty)
@[reducible] def Ty.T:Ty→Type
 |.i' _=>Int
 |.c'=>UInt8
 |.s'=>Str
 |.b'=>Bool
 |.u'=>Unit
 |.w' x=>x.T
 |.pr x y=>x.T×y.T
 |.sm x y=>x.T⊕y.T
 |.l' _ _ x=>List x.T
 |.y'=>Str
 |.r' x=>List x.T
 |.p' _ x=>x.T
 |.z'=>Unit
 |.o' _=>Unit
 |.f' _ x=>x.T
def kN:IntKind→Nat
 |.i8=>0
 |.i16=>1
 |.i32=>2
 |.i64=>3
 |.u8=>4
 |.u16=>5
 |.u32=>6
 |.u64=>7
def keq(a b:IntKind):Bool:=zav (kN a) (kN b)
def Ty.eqb:Ty→Ty→Bool
 |.i' k,.i' k'=>keq k k'
 |.c',.c'=>true
 |.s',.s'=>true
 |.b',.b'=>true
 |.u',.u'=>true
 |.w' x,.w' x'=>x.eqb x'
 |.pr x y,.pr xx yy=>bif x.eqb xx then y.eqb yy else false
 |.sm x y,.sm xx yy=>bif x.eqb xx then y.eqb yy else false
 |.l' e h x,.l' ee hh x'=>bif zav e ee then bif zav h hh then x.eqb x' else false else false
 |.y',.y'=>true
 |.r' x,.r' x'=>x.eqb x'
 |.p' e x,.p' ee x'=>bif zav e ee then x.eqb x' else false
 |.z',.z'=>true
 |.o' j,.o' j'=>zav j j'
 |.f' k x,.f' k' x'=>bif zav k k' then x.eqb x' else false
 |_,_=>false
theorem agp{a b:Bool}(h:(bif a then b else false)=true):a=true∧b=true:=by cases a<;>cases b<;>simp_all
theorem keq_eq{a b:IntKind}(h:keq a b=true):a=b:=by
 revert h;cases a<;>cases b<;>first|(intro _;rfl)|(intro h;exact absurd h (by decide+kernel))
theorem Ty.eqb_eq:∀{a b:Ty},a.eqb b=true→a=b:=by
 intro a
 induction a with
 |i' k=>intro b h;cases b with
  |i' k'=>rw [keq_eq h]
  |_=>cases h
 |w' x ih=>intro b h;cases b with
  |w' y=>rw [ih h]
  |_=>cases h
 |pr x y ih ih'=>intro b h;cases b with
  |pr xx yy=>have h:=agp h;rw [ih h.1,ih' h.2]
  |_=>cases h
 |sm x y ih ih'=>intro b h;cases b with
  |sm xx yy=>have h:=agp h;rw [ih h.1,ih' h.2]
  |_=>cases h
 |l' e bb x ih=>intro b h;cases b with
  |l' e' b' y=>have h:=agp h;have h':=agp h.2;rw [ih h'.2,zag h.1,zag h'.1]
  |_=>cases h
 |r' x ih=>intro b h;cases b with
  |r' y=>rw [ih h]
  |_=>cases h
 |p' e x ih=>intro b h;cases b with
  |p' e' y=>have h:=agp h;rw [ih h.2,zag h.1]
  |_=>cases h
 |o' j=>intro b h;cases b with
  |o' k=>rw [zag h]
  |_=>cases h
 |f' k x ih=>intro b h;cases b with
  |f' k' y=>have h:=agp h;rw [ih h.2,zag h.1]
  |_=>cases h
 |_=>intro b h;cases b<;>first|rfl|cases h
def castL{a b:Ty}(h:a.eqb b=true)(l:List a.T):List b.T:=(Ty.eqb_eq h)▸l
@[reducible] def tupT:List Ty→Ty
 |[]=>.u'
 |[x]=>x
 |x::y::l=>.pr x (tupT (y::l))
def Ty.flat:Ty→Bool
 |.i' _=>true
 |.c'=>true
 |.s'=>true
 |.b'=>true
 |.w' x=>x.flat
 |.pr x y=>bif x.flat then y.flat else false
 |_=>false
def Ty.sz:Ty→Nat
 |.w' x=>x.sz
 |.pr x y=>x.sz+y.sz
 |_=>1
def Ty.enc:(t:Ty)→t.T→List Value
 |.i' k,n=>[.int k n]
 |.c',x=>[bt x]
 |.s',x=>[str x]
 |.b',x=>[.bool x]
 |.w' t,x=>t.enc x
 |.pr a b,x=>a.enc x.1++b.enc x.2
 |_,_=>[]
def Ty.agg:Ty→Bool
 |.w' _=>true
 |.pr _ _=>true
 |_=>false
inductive SC where
 |i' (k:IntKind) (n:Int)
 |c' (x:UInt8)
 |s' (x:Str)
 |b' (x:Bool)
 |d' (p:Prop) (h:Decidable p)
 |e' (p:Prop) (h:Decidable p)
 |o' (j:Nat)
 |n'
 |p' (id off:Nat)
 |q' (id:Nat) (j:Int) (sz off:Nat)
 |l' (id:Nat)
 |k' (id n:Nat)
 |f' (k:Nat) (ids:List Nat)
 |z' (id fl:Nat)
 |u'
inductive SA where
 |c' (x:SC)
 |a' (l:List SC)
inductive SV where
 |c' (x:SC)
 |a' (l:List SC)
 |t' (l:List SA)
 |n'
 |u'
inductive Ob where
 |bl (e:Nat) (cs:List SC)
 |rw (e by_:Nat) (t:Ty) (l:List t.T)
 |ro (t:Ty) (l:List t.T)
 |br (n:Nat) (l:Str)
 |dd (n:Nat)
structure Ad where
 o:Option Nat
 a:Option Addr
 cap:Nat
 z:Bool
 ln:Nat
def Ad.b(d:Ad):Nat:=d.o.getD 0
def Ob.len:Ob→Nat
 |.rw _ _ _ l=>l.length
 |.ro _ l=>l.length
 |.br n _=>n
 |.dd n=>n
 |_=>0
def ams{α:Type}:List α→Nat→Option α
 |[],_=>none
 |x::l,k=>match k with
  |0=>some x
  |k+1=>ams l k
def lenH(H:List Ob)(id:Nat):Nat:=match ams H id with
 |some o=>o.len
 |none=>0
def nilV:Nat→Value
 |0=>.pointer none
 |1=>.nilFunc
 |_=>.nilIface
def bptr(b off:Nat):Value:=.pointer (some ⟨b,off,none⟩)
def SC.v(ρ:Nat→Ad):SC→Value
 |.i' k n=>.int k n
 |.c' x=>bt x
 |.s' x=>str x
 |.b' x=>.bool x
 |.d' p h=>.bool (@decide p h)
 |.e' p h=>.bool (!@decide p h)
 |.o' j=>nilV j
 |.n'=>.slice none 0 0
 |.p' id off=>bptr (ρ id).b off
 |.q' id j sz off=>.pointer (some (ea (ρ id).a (j.toNat*sz+off)))
 |.l' id=>.slice (ρ id).a (ρ id).ln (ρ id).cap
 |.k' id n=>.slice (some ⟨(ρ id).b,0,none⟩) n n
 |.f' k ids=>.func (.func k) #[] (ids.map fun id=>bptr (ρ id).b 0).toArray
 |.z' id fl=>.pointer (bif (ρ fl).z then some ⟨(ρ id).b,0,none⟩else none)
 |.u'=>.bool false
def SC.kn:SC→Bool
 |.u'=>false
 |_=>true
def knL:List SC→Bool
 |[]=>true
 |x::l=>bif x.kn then knL l else false
def SA.v(ρ:Nat→Ad):SA→Value
 |.c' x=>x.v ρ
 |.a' l=>.agg (l.map (SC.v ρ)).toArray
def SV.v(ρ:Nat→Ad):SV→Option Value
 |.c' x=>some (x.v ρ)
 |.a' l=>some (.agg (l.map (SC.v ρ)).toArray)
 |.t' l=>some (.tuple (l.map (SA.v ρ)).toArray)
 |.n'=>some undef
 |.u'=>none
def SA.sv:SA→SV
 |.c' x=>.c' x
 |.a' l=>.a' l
def SV.cells:SV→Option (List SC)
 |.c' x=>some [x]
 |.a' l=>some l
 |_=>none
def SV.sa:SV→Option SA
 |.c' x=>some (.c' x)
 |.a' l=>some (.a' l)
 |_=>none
def Ty.sv(t:Ty)(cs:List SC):SV:=bif t.agg then .a' cs else match cs with
 |[x]=>.c' x
 |_=>.u'
def Ty.sa(t:Ty)(cs:List SC):SA:=bif t.agg then .a' cs else match cs with
 |[x]=>.c' x
 |_=>.a' cs
def ptrL:List SC→List Nat
 |[]=>[]
 |x::l=>match x with
  |.p' id _=>id::ptrL l
  |_=>ptrL l
def Ty.no:Ty→Nat
 |.w' x=>x.no
 |.pr x y=>x.no+y.no
 |.l' _ _ _=>1
 |.y'=>1
 |.r' _=>1
 |.p' _ x=>x.no+1
 |.z'=>1
 |.f' _ x=>x.no
 |_=>0
def Ty.lay:(t:Ty)→(self n:Nat)→t.T→List SC×List Ob
 |.i' k,_,_,x=>([.i' k x],[])
 |.c',_,_,x=>([.c' x],[])
 |.s',_,_,x=>([.s' x],[])
 |.b',_,_,x=>([.b' x],[])
 |.u',_,_,_=>([],[])
 |.w' t,s,n,x=>t.lay s n x
 |.pr a b,s,n,x=>((a.lay s n x.1).1++(b.lay s (n+a.no) x.2).1,(a.lay s n x.1).2++(b.lay s (n+a.no) x.2).2)
 |.sm _ _,_,_,_=>([],[])
 |.l' e b t,_,n,x=>([.l' n],[.rw e b t x])
 |.y',_,n,x=>([.l' n],[.br x.length x])
 |.r' t,_,n,x=>([.l' n],[.ro t x])
 |.p' e t,_,n,x=>([.p' n 0],.bl e (t.lay n (n+1) x).1::(t.lay n (n+1) x).2)
 |.z',s,n,_=>([.z' s n],[.dd 0])
 |.o' j,_,_,_=>([.o' j],[])
 |.f' k t,s,n,x=>([.f' k (ptrL (t.lay s n x).1)],(t.lay s n x).2)
inductive Src where
 |o' (id:Nat) (w:Bool)
 |n'
 |k' (id m:Nat) (w:Bool)
 |z' (t:Bool)
def Src.own:Src→List Nat
 |.o' id w=>bif w then [id]else []
 |.k' id _ w=>bif w then [id]else []
 |_=>[]
def Src.bor:Src→List Nat
 |.o' id w=>bif w then []else [id]
 |.k' id _ w=>bif w then []else [id]
 |_=>[]
def hd1{α:Type}(f:SC→Option α):List SC→Option (α×List SC×List Src)
 |[]=>none
 |x::l=>match f x with
  |some y=>some (y,l,[])
  |none=>none
def SC.rI(k:IntKind):SC→Option Int
 |.i' kk n=>bif keq k kk then some n else none
 |_=>none
def SC.rC:SC→Option UInt8
 |.c' x=>some x
 |_=>none
def SC.rS:SC→Option Str
 |.s' x=>some x
 |_=>none
def SC.rB:SC→Option Bool
 |.b' x=>some x
 |.d' p h=>some (@decide p h)
 |.e' p h=>some (!@decide p h)
 |_=>none
def Ty.rd0:(t:Ty)→List SC→Option (t.T×List SC)
 |.i' k,l=>match l with
  |x::l=>match x.rI k with
   |some y=>some (y,l)
   |none=>none
  |[]=>none
 |.c',l=>match l with
  |x::l=>match x.rC with
   |some y=>some (y,l)
   |none=>none
  |[]=>none
 |.s',l=>match l with
  |x::l=>match x.rS with
   |some y=>some (y,l)
   |none=>none
  |[]=>none
 |.b',l=>match l with
  |x::l=>match x.rB with
   |some y=>some (y,l)
   |none=>none
  |[]=>none
 |.w' t,l=>t.rd0 l
 |.pr a b,l=>match a.rd0 l with
  |some (x,l1)=>match b.rd0 l1 with
   |some (y,l2)=>some ((x,y),l2)
   |none=>none
  |none=>none
 |_,_=>none
def rdAll(t:Ty):Nat→List SC→Option (List t.T)
 |0,l=>match l with
  |[]=>some []
  |_=>none
 |m+1,l=>match t.rd0 l with
  |some (x,l1)=>match rdAll t m l1 with
   |some q=>some (x::q)
   |none=>none
  |none=>none
def rowOf(t:Ty)(o:Option Ob):Option (List t.T):=match o with
 |some (.rw _ _ t' l)=>if h:t'.eqb t=true then some (castL h l)else none
 |_=>none
def strOf(t:Ty)(l:Str):Option (List t.T):=if h:Ty.c'.eqb t=true then some (castL h l)else none
def anyOf(t:Ty)(o:Option Ob):Option (List t.T):=match o with
 |some (.rw _ _ t' l)=>if h:t'.eqb t=true then some (castL h l)else none
 |some (.ro t' l)=>if h:t'.eqb t=true then some (castL h l)else none
 |some (.br _ l)=>strOf t l
 |_=>none
def roOf(t:Ty)(o:Option Ob):Option (List t.T):=match o with
 |some (.ro t' l)=>if h:t'.eqb t=true then some (castL h l)else none
 |_=>none
def rwE:Option Ob→Option (Nat×Nat)
 |some (.rw e b _ _)=>some (e,b)
 |_=>none
def Ty.tz:Ty→Bool
 |.w' x=>x.tz
 |.pr x y=>bif x.tz then true else y.tz
 |.z'=>true
 |.f' _ x=>x.tz
 |_=>false
def Ty.ptrs:Ty→Bool
 |.u'=>true
 |.p' _ _=>true
 |.pr x y=>bif x.ptrs then y.ptrs else false
 |_=>false
def Ty.rd(any:Bool)(H:List Ob):(t:Ty)→(self:Nat)→List SC→Option (t.T×List SC×List Src)
 |.i' k,_,l=>hd1 (SC.rI k) l
 |.c',_,l=>hd1 SC.rC l
 |.s',_,l=>hd1 SC.rS l
 |.b',_,l=>hd1 SC.rB l
 |.u',_,l=>some ((),l,[])
 |.w' t,s,l=>t.rd any H s l
 |.pr a b,s,l=>match a.rd any H s l with
  |some (x,l1,s1)=>match b.rd any H s l1 with
   |some (y,l2,s2)=>some ((x,y),l2,s1++s2)
   |none=>none
  |none=>none
 |.sm _ _,_,_=>none
 |.l' e b t,_,l=>match l with
  |.n'::l=>some ([],l,[.n'])
  |.l' id::l=>match rwE (ams H id)with
   |some q=>bif zav q.1 e then(bif zav q.2 b then(match rowOf t (ams H id)with
    |some x=>some (x,l,[.o' id true])
    |none=>none)else none)else none
   |none=>none
  |.k' id m::l=>match ams H id with
   |some (.bl e' cs)=>bif zav e' e then(bif t.flat then(bif Nat.ble m 1048576 then(match rdAll t m cs with
    |some x=>some (x,l,[.k' id m true])
    |none=>none)else none)else none)else none
   |_=>none
  |_=>none
 |.y',_,l=>match l with
  |.l' id::l=>match ams H id with
   |some (.br _ x)=>some (x,l,[.o' id true])
   |_=>none
  |_=>none
 |.r' t,_,l=>match l with
  |.n'::l=>some ([],l,[.n'])
  |.l' id::l=>match(bif any then anyOf t (ams H id)else roOf t (ams H id))with
   |some x=>some (x,l,[.o' id false])
   |none=>none
  |.k' id m::l=>match(bif any then ams H id else none)with
   |some (.bl _ cs)=>match rdAll t m cs with
    |some x=>some (x,l,[.k' id m false])
    |none=>none
   |_=>none
  |_=>none
 |.p' e t,_,l=>match l with
  |.p' id off::l=>match ams H id with
   |some (.bl e' cs)=>bif zav off 0 then(bif zav e' e then(match t.rd any H id cs with
    |some (x,[],ss)=>some (x,l,.o' id true::ss)
    |_=>none)else none)else none
   |_=>none
  |_=>none
 |.z',s,l=>match l with
  |.o' j::l=>bif zav j 0 then some ((),l,[.z' false])else none
  |.p' id off::l=>bif zav off 0 then(bif zav id s then some ((),l,[.z' true])else none)else none
  |.z' id fl::l=>bif zav id s then(match ams H fl with
   |some (.dd 0)=>some ((),l,[.o' fl false])
   |_=>none)else none
  |_=>none
 |.o' j,_,l=>match l with
  |.o' j'::l=>bif zav j j' then some ((),l,[])else none
  |_=>none
 |.f' k t,s,l=>match l with
  |.f' k' ids::l=>bif zav k k' then(match(bif t.ptrs then t.rd any H s (ids.map fun id=>.p' id 0)else none)with
   |some (x,[],ss)=>some (x,l,ss)
   |_=>none)else none
  |_=>none
def Ty.cn:Ty→Nat
 |.u'=>0
 |.w' x=>x.cn
 |.pr x y=>x.cn+y.cn
 |.sm _ _=>0
 |_=>1
def ldrop{α:Type}:List α→Nat→List α
 |[],_=>[]
 |x::l,k=>match k with
  |0=>x::l
  |k+1=>ldrop l k
def ltake{α:Type}:List α→Nat→Option (List α)
 |_,0=>some []
 |[],_+1=>none
 |x::l,k+1=>match ltake l k with
  |some q=>some (x::q)
  |none=>none
def art{α:Type}:List α→Nat→α→List α
 |[],_,_=>[]
 |x::l,k,y=>match k with
  |0=>y::l
  |k+1=>x::art l k y
def putC:List SC→Nat→List SC→Option (List SC)
 |l,0,[]=>some l
 |_::l,0,v::vs=>match putC l 0 vs with
  |some q=>some (v::q)
  |none=>none
 |x::l,k+1,vs=>match putC l k vs with
  |some q=>some (x::q)
  |none=>none
 |[],_,_=>none
def putD(l:List SC)(k:Nat)(vs:List SC):List SC:=match putC l k vs with
 |some q=>q
 |none=>l
inductive Key where
 |s' (t:Nat) (x:Ty)
 |o' (t off:Nat) (x:Ty)
 |w' (t:Nat) (x:Ty)
def Key.ty:Key→Ty
 |.s' _ x=>x
 |.o' _ _ x=>x
 |.w' _ x=>x
abbrev keyT(l:List Key):Ty:=tupT (l.map Key.ty)
def wOf(H:List Ob)(id:Nat):(x:Ty)→Option x.T
 |.l' e b t=>match rwE (ams H id)with
  |some q=>bif zav q.1 e then(bif zav q.2 b then rowOf t (ams H id)else none)else none
  |none=>none
 |.y'=>match ams H id with
  |some (.br _ x)=>some x
  |_=>none
 |_=>none
def fulL{α:Type}:Option (α×List SC×List Src)→Option (α×List Src)
 |some (x,[],ss)=>some (x,ss)
 |_=>none
def rdV(any:Bool)(H:List Ob)(x:Ty):SV→Option (x.T×List Src)
 |.c' c=>bif x.tz then none else(bif x.agg then none else fulL (x.rd any H 0 [c]))
 |.a' l=>bif x.tz then none else(bif x.agg then fulL (x.rd any H 0 l)else none)
 |_=>none
def rdB(H:List Ob)(id off:Nat)(x:Ty):Option (x.T×List Src):=match ams H id with
 |some (.bl _ cs)=>match ltake (ldrop cs off) x.cn with
  |some q=>fulL (x.rd false H id q)
  |none=>none
 |_=>none
def rdW(H:List Ob)(id:Nat)(x:Ty):Option (x.T×List Src):=match wOf H id x with
 |some y=>some (y,[])
 |none=>none
def Key.rd(ix:Nat→Nat)(F:Nat→SV)(H:List Ob):(k:Key)→Option (k.ty.T×List Src)
 |.s' t x=>rdV false H x (F t)
 |.o' t off x=>rdB H (ix t) off x
 |.w' t x=>rdW H (ix t) x
def rdK(ix:Nat→Nat)(F:Nat→SV)(H:List Ob):(l:List Key)→Option ((keyT l).T×List Src)
 |[]=>some ((),[])
 |[k]=>k.rd ix F H
 |k::k2::l=>match k.rd ix F H with
  |some (x,s1)=>match rdK ix F H (k2::l)with
   |some (y,s2)=>some ((x,y),s1++s2)
   |none=>none
  |none=>none
def wPut(n:Nat):(x:Ty)→x.T→Option Ob
 |.l' e b t,v=>some (.rw e b t v)
 |.y',v=>some (.br n v)
 |_,_=>none
abbrev Fr:=Tr SV×List Ob
def putV(F:Tr SV)(H:List Ob)(t:Nat)(x:Ty)(v:x.T):Fr:=(F.set t (x.sv (x.lay 0 H.length v).1),H++(x.lay 0 H.length v).2)
def putB(H:List Ob)(id off:Nat)(x:Ty)(v:x.T):List Ob:=match ams H id with
 |some (.bl e cs)=>art H id (.bl e (putD cs off (x.lay id H.length v).1))++(x.lay id H.length v).2
 |_=>H++(x.lay id H.length v).2
def putW(H:List Ob)(id:Nat)(x:Ty)(v:x.T):List Ob:=match wPut (lenH H id) x v with
 |some o=>art H id o
 |none=>H
def Key.put(ix:Nat→Nat)(S:Fr):(k:Key)→k.ty.T→Fr
 |.s' t x,v=>putV S.1 S.2 t x v
 |.o' t off x,v=>(S.1,putB S.2 (ix t) off x v)
 |.w' t x,v=>(S.1,putW S.2 (ix t) x v)
def putK(ix:Nat→Nat)(S:Fr):(l:List Key)→(keyT l).T→Fr
 |[],_=>S
 |[k],v=>k.put ix S v
 |k::k2::l,v=>putK ix (k.put ix S v.1) (k2::l) v.2
inductive Rk where
 |r' (x:Ty)
 |o' (id e:Nat) (x:Ty)
 |w' (id:Nat) (x:Ty)
def Rk.ty:Rk→Ty
 |.r' x=>x
 |.o' _ _ x=>x
 |.w' _ x=>x
abbrev resT(l:List Rk):Ty:=tupT (l.map Rk.ty)
def rdO(H:List Ob)(id e:Nat)(x:Ty):Option (x.T×List Src):=match ams H id with
 |some (.bl ee cs)=>bif zav ee e then fulL (x.rd false H id cs)else none
 |_=>none
def Rk.rd(H:List Ob):(k:Rk)→List SV→Option (k.ty.T×List Src×List SV)
 |.r' x,vs=>match vs with
  |v::vs=>match rdV false H x v with
   |some (x,ss)=>some (x,ss,vs)
   |none=>none
  |[]=>none
 |.o' id e x,vs=>match rdO H id e x with
  |some (x,ss)=>some (x,ss,vs)
  |none=>none
 |.w' id x,vs=>match rdW H id x with
  |some (x,ss)=>some (x,ss,vs)
  |none=>none
def rdR(H:List Ob):(l:List Rk)→List SV→Option ((resT l).T×List Src)
 |[],vs=>match vs with
  |[]=>some ((),[])
  |_=>none
 |[k],vs=>match k.rd H vs with
  |some (x,ss,[])=>some (x,ss)
  |_=>none
 |k::k2::l,vs=>match k.rd H vs with
  |some (x,s1,vs)=>match rdR H (k2::l) vs with
   |some (y,s2)=>some ((x,y),s1++s2)
   |none=>none
  |none=>none
def putO(H:List Ob)(id e:Nat)(x:Ty)(v:x.T):List Ob:=art H id (.bl e (x.lay id H.length v).1)++(x.lay id H.length v).2
def Rk.put(ix:Nat→Nat)(S:List SA×List Ob):(k:Rk)→k.ty.T→List SA×List Ob
 |.r' x,v=>(S.1++[x.sa (x.lay 0 S.2.length v).1],S.2++(x.lay 0 S.2.length v).2)
 |.o' id e x,v=>(S.1,putO S.2 (ix id) e x v)
 |.w' id x,v=>(S.1,putW S.2 (ix id) x v)
def putR(ix:Nat→Nat)(S:List SA×List Ob):(l:List Rk)→(resT l).T→List SA×List Ob
 |[],_=>S
 |[k],v=>k.put ix S v
 |k::k2::l,v=>putR ix (k.put ix S v.1) (k2::l) v.2
def resV:List SA→SV
 |[x]=>x.sv
 |l=>.t' l
def rdA(H:List Ob):(l:List Ty)→List SV→Option ((tupT l).T×List Src)
 |[],vs=>match vs with
  |[]=>some ((),[])
  |_=>none
 |[x],vs=>match vs with
  |[v]=>rdV true H x v
  |_=>none
 |x::y::l,vs=>match vs with
  |v::vs=>match rdV true H x v with
   |some (a,s1)=>match rdA H (y::l) vs with
    |some (b,s2)=>some ((a,b),s1++s2)
    |none=>none
   |none=>none
  |[]=>none
def asc(H:List Ob):(l:List Ty)→(tupT l).T→List SV×List Ob
 |[],_=>([],H)
 |[x],v=>([x.sv (x.lay 0 H.length v).1],H++(x.lay 0 H.length v).2)
 |x::y::l,v=>(x.sv (x.lay 0 H.length v.1).1::(asc (H++(x.lay 0 H.length v.1).2) (y::l) v.2).1,(asc (H++(x.lay 0 H.length v.1).2) (y::l) v.2).2)
structure PD where
 p:Prop
 h:Decidable p
inductive Gv (α:Type) where
 |one (x:Option α)
 |gs (l:List PD) (x:α)
structure Con where
 a:List Ty
 r:List Rk
 f:(tupT a).T→Gv (resT r).T
def gdL{ρ:Type}(l:List PD)(x:Option ρ):Option ρ:=match l with
 |[]=>x
 |⟨p,h⟩::l=> @gd ρ p h (gdL l x)
def Gv.bd{α ρ:Type}(g:Gv α)(k:α→Option ρ):Option ρ:=match g with
 |.one x=>x.bind k
 |.gs l x=>gdL l (k x)
structure Cx where
 P:Program
 X:Nat→List Con
 E:Nat→Option (Nat×Nat×Ty)
 G:Nat→Option Nat
 nn:Nat
 fu:Nat
structure St where
 F:Tr SV
 H:List Ob
 nb:Nat
 al:List (Nat×Nat×Nat)
 m:List (Nat×Nat×Nat)
def St.at(S:St)(t:Nat):SV:=match S.F.get t with
 |some v=>v
 |none=>.u'
def St.set(S:St)(d:Nat)(v:SV):St:=⟨S.F.set d v,S.H,S.nb,S.al,S.m⟩
def St.setO(S:St)(d:Option Nat)(v:SV):St:=match d with
 |some d=>S.set d v
 |none=>S
def cvC:Value→Option SC
 |.bool b=>some (.b' b)
 |.int k n=>bif keq k .u8 then(if 0≤n∧n<256 then some (.c' (zbm n.toNat))else none)else some (.i' k n)
 |.string s=>some (.s' s.data.toList)
 |.slice none 0 0=>some .n'
 |.pointer none=>some (.o' 0)
 |.nilFunc=>some (.o' 1)
 |.nilIface=>some (.o' 2)
 |_=>none
def cvL:List Value→Option (List SC)
 |[]=>some []
 |v::l=>match cvC v with
  |some x=>match cvL l with
   |some q=>some (x::q)
   |none=>none
  |none=>none
def cv:Value→SV
 |.agg cs=>match cvL cs.toList with
  |some l=>.a' l
  |none=>.u'
 |v=>match cvC v with
  |some x=>.c' x
  |none=>.u'
section
variable (C : Cx)
def St.ev(S:St):Operand→SV
 |.tmp t=>bif zbh t C.nn then S.at t else .u'
 |.const v=>cv v
 |.global g=>match C.G g with
  |some id=>.c' (.q' id 0 0 0)
  |none=>.u'
 |.func k=>.c' (.f' k [])
end
structure Ro where
 g:List PD
 v:SV
 H:List Ob
 m:List (Nat×Nat×Nat)
abbrev Rv:=Option (List PD×SV)
def okC(x:SC):Rv:=some ([],.c' x)
def gdC(p:Prop)[h:Decidable p](x:SC):Rv:=some ([⟨p,h⟩],.c' x)
def i64(k:IntKind):Bool:=keq k .i64
def bI(b:BinOp)(k:IntKind)(u v:Int):Rv:=
 match b with
 |.lss=>okC (.d' (u<v) inferInstance)
 |.leq=>okC (.d' (u≤v) inferInstance)
 |.gtr=>okC (.d' (v<u) inferInstance)
 |.geq=>okC (.d' (v≤u) inferInstance)
 |.eql=>okC (.d' (u=v) inferInstance)
 |.neq=>okC (.e' (u=v) inferInstance)
 |.add=>bif i64 k then gdC (abt (u+v)) (.i' k (u+v))else okC (.i' k (k.wrap (u+v)))
 |.sub=>bif i64 k then gdC (abt (u-v)) (.i' k (u-v))else okC (.i' k (k.wrap (u-v)))
 |.mul=>bif i64 k then gdC (abt (u*v)) (.i' k (u*v))else okC (.i' k (k.wrap (u*v)))
 |.quo=>bif i64 k then gdC (0≤u∧0<v∧abt u) (.i' k (u/v))else none
 |.rem=>bif i64 k then gdC (0≤u∧0<v∧abt u) (.i' k (u%v))else none
 |.and=>okC (.i' k (andI k u v))
 |.or=>okC (.i' k (orI k u v))
 |_=>none
def bC(b:BinOp)(u v:UInt8):Rv:=
 match b with
 |.lss=>okC (.d' (u<v) inferInstance)
 |.leq=>okC (.d' (u≤v) inferInstance)
 |.gtr=>okC (.d' (v<u) inferInstance)
 |.geq=>okC (.d' (v≤u) inferInstance)
 |.eql=>okC (.d' (u=v) inferInstance)
 |.neq=>okC (.e' (u=v) inferInstance)
 |.add=>okC (.c' (u+v))
 |.sub=>okC (.c' (u-v))
 |.mul=>okC (.c' (u*v))
 |.quo=>gdC (v≠0) (.c' (u/v))
 |.rem=>gdC (v≠0) (.c' (u%v))
 |.and=>okC (.c' (u&&&v))
 |.or=>okC (.c' (u|||v))
 |_=>none
def bS(b:BinOp)(u v:Str):Rv:=
 match b with
 |.eql=>okC (.d' (u=v) inferInstance)
 |.neq=>okC (.e' (u=v) inferInstance)
 |.lss=>okC (.b' (zaL u v))
 |.gtr=>okC (.b' (!(zaL u v||u==v)))
 |.add=>gdC (u.length+v.length≤9223372036854775807) (.s' (u++v))
 |_=>none
def bB(b:BinOp)(u v:Bool):Rv:=match b with
 |.eql=>okC (.b' (u==v))
 |.neq=>okC (.b' (!(u==v)))
 |_=>none
def sh8(z:Bool)(b:BinOp)(u:UInt8)(v:Int):Rv:=
 match b with
 |.shl=>bif z then okC (.c' (shl8 u v))else gdC (0≤v) (.c' (shl8 u v))
 |.shr=>bif z then okC (.c' (shr8 u v))else gdC (0≤v) (.c' (shr8 u v))
 |_=>none
def asI:SC→Option Int
 |.i' _ n=>some n
 |.c' x=>some (x.toNat:Int)
 |_=>none
def shI(k:IntKind)(u v:Int):Rv:=match v with
 |.ofNat n=>okC (.i' k (u/((2^(min n k.bits):Nat):Int)))
 |_=>none
def isShr:BinOp→Bool
 |.shr=>true
 |_=>false
def shlI(k:IntKind)(u v:Int):Rv:=match v with
 |.ofNat n=>okC (.i' k (zac k (u*((2^(min n k.bits):Nat):Int))))
 |_=>none
def isShl:BinOp→Bool
 |.shl=>true
 |_=>false
def bin(z:Bool)(b:BinOp)(x y:SC):Rv:=
 match x,y with
 |.i' k u,.i' kk v=>bif isShr b then shI k u v else bif isShl b then shlI k u v else bif keq k kk then bI b k u v else none
 |.c' u,.c' v=>bC b u v
 |.c' u,.i' _ v=>sh8 z b u v
 |.s' u,.s' v=>bS b u v
 |_,_=>none
def notC:SC→Rv
 |.b' x=>okC (.b' (!x))
 |.d' p h=>okC (.e' p h)
 |.e' p h=>okC (.d' p h)
 |_=>none
def ixC(x ix:SC):Rv:=
 match x with
 |.s' l=>match asI ix with
  |some i=>gdC (0≤i∧i<(l.length:Int)) (.c' (at_ l i))
  |none=>none
 |_=>none
def cutC(x:SC)(lo hi:Option SC):Rv:=
 match x with
 |.s' l=>match lo,hi with
  |some a,some b=>match asI a,asI b with
   |some i,some j=>gdC (0≤i∧i≤j∧j≤(l.length:Int)) (.s' (sub l i j))
   |_,_=>none
  |some a,none=>match asI a with
   |some i=>gdC (0≤i∧i≤(l.length:Int)) (.s' (zaC (zan i) l))
   |none=>none
  |none,some b=>match asI b with
   |some j=>gdC (0≤j∧j≤(l.length:Int)) (.s' (zbt (zan j) l))
   |none=>none
  |none,none=>none
 |_=>none
section
variable (C : Cx)
def kindOf(t:Nat):Option IntKind:=match C.P.underlying t with
 |some (.int k)=>some k
 |_=>none
def apm(t:Nat):Bool:=match C.P.underlying t with
 |some .string=>true
 |_=>false
def slE(t:Nat):Option Nat:=match C.P.underlying t with
 |some (.slice e)=>some e
 |_=>none
def arE(t:Nat):Option (Nat×Nat):=match C.P.underlying t with
 |some (.array n e)=>some (n,e)
 |_=>none
def tSz(t:Nat):Option Nat:=sval C.P (sizeOf t)
def tAg(t:Nat):Option Bool:=sval C.P (isAgg t)
def isU8(e:Nat):Bool:=match C.P.underlying e with
 |some (.int k)=>keq k .u8
 |_=>false
def isK(e:Nat)(k:IntKind):Bool:=match kindOf C e with
 |some k2=>keq k2 k
 |none=>false
def conC(s t:Nat)(x:SC):Rv:=
 match x with
 |.c' u=>bif isU8 C s then(match kindOf C t with
  |some .u8=>okC (.c' u)
  |some .i64=>okC (.i' .i64 (u.toNat:Int))
  |some .i32=>okC (.i' .i32 (u.toNat:Int))
  |_=>none)else none
 |.i' k n=>bif isK C s k then(match kindOf C t with
  |some .u8=>okC (.c' (u8i n))
  |some k'=>bif keq k k' then(bif i64 k then gdC (abt n) (.i' k n)else gdC (zac k' n=n) (.i' k n))else okC (.i' k' (k'.wrap n))
  |none=>bif apm C t then okC (.s' (Utf8.encode n).data.toList)else none)else none
 |.s' l=>bif apm C s then(bif apm C t then okC (.s' l)else none)else none
 |_=>none
def zC(t:Nat):Option (List SC):=match sval C.P (zeroValue t)with
 |some v=>cvL v.cells.toList
 |none=>none
def fldAt(t f:Nat):Option (Nat×Nat×Bool):=match C.P.underlying t with
 |some (.struct fs)=>match ams fs.toList f with
  |some fd=>match tSz C fd.type,tAg C fd.type with
   |some n,some a=>some (fd.offset,n,a)
   |_,_=>none
  |none=>none
 |_=>none
def partC(l:List SC)(off n:Nat)(a:Bool):Option SV:=
 bif a then(match ltake (ldrop l off) n with
  |some q=>bif knL q then some (.a' q)else none
  |none=>none)else match ams l off with
  |some x=>bif x.kn then some (.c' x)else none
  |none=>none
def pur(H:List Ob)(r:Rv):Option Ro:=match r with
 |some (g,v)=>some ⟨g,v,H,[]⟩
 |none=>none
def val1(H:List Ob)(v:Option SV):Option Ro:=match v with
 |some v=>some ⟨[],v,H,[]⟩
 |none=>none
def on1{α:Type}(x:SV)(f:SC→Option α):Option α:=match x with
 |.c' x=>f x
 |_=>none
def onO{α:Type}(ev:Operand→SV)(x:Option Operand)(f:Option SC→Option α):Option α:=match x with
 |none=>f none
 |some o=>on1 (ev o) fun a=>f (some a)
end
@[reducible] def Ty.inh:(t:Ty)→Inhabited t.T
 |.i' _=>⟨(0:Int)⟩
 |.c'=>⟨(0:UInt8)⟩
 |.s'=>⟨([]:Str)⟩
 |.b'=>⟨false⟩
 |.u'=>⟨()⟩
 |.w' x=>x.inh
 |.pr x y=>⟨(x.inh.default,y.inh.default)⟩
 |.sm x _=>⟨.inl x.inh.default⟩
 |.l' _ _ x=>⟨([]:List x.T)⟩
 |.y'=>⟨([]:Str)⟩
 |.r' x=>⟨([]:List x.T)⟩
 |.p' _ x=>x.inh
 |.z'=>⟨()⟩
 |.o' _=>⟨()⟩
 |.f' _ x=>x.inh
def elT:(t:Ty)→List t.T→Int→t.T
 |.c',l,j=>at_ l j
 |t,l,j=> @el t.T t.inh l j
def elC(t:Ty)(l:List t.T)(j:Int):List SC:=(t.lay 0 0 (elT t l j)).1
section
variable (C : Cx)
def contE(H:List Ob)(t:Ty)(x:SC):Option (List t.T):=match x with
 |.n'=>some []
 |.l' id=>anyOf t (ams H id)
 |.k' id m=>match ams H id with
  |some (.bl _ cs)=>rdAll t m cs
  |_=>none
 |_=>none
def szOk(sz:Nat)(j:Int)(t:Ty):Bool:=bif zav sz t.sz then true else match j with
 |.ofNat 0=>true
 |_=>false
def partE(H:List Ob)(t:Ty)(l:List t.T)(j:Int)(sz off n:Nat)(a:Bool):Option Ro:=
 match partC (elC t l j) off n a with
 |some v=>bif (bif szOk sz j t then t.flat else false)then some ⟨[⟨0≤j∧j<(l.length:Int),inferInstance⟩],v,H,[]⟩else none
 |none=>none
def allC(t:Ty):List t.T→List SC
 |[]=>[]
 |x::l=>(t.lay 0 0 x).1++allC t l
def wholeE(H:List Ob)(t:Ty)(l:List t.T)(j:Int)(off n:Nat)(a:Bool):Option Ro:=match j with
 |.ofNat 0=>bif t.flat then val1 H (partC (allC t l) off n a)else none
 |_=>none
def opLoad(H:List Ob)(t:Nat)(x:SC):Option Ro:=match tSz C t,tAg C t with
 |some n,some a=>bif zav n 0 then none else match x with
  |.p' id off=>match ams H id with
   |some (.bl _ cs)=>val1 H (partC cs off n a)
   |_=>none
  |.q' id j sz off=>match ams H id with
   |some (.rw _ _ t' l)=>partE H t' l j sz off n a
   |some (.ro t' l)=>(match partE H t' l j sz off n a with
    |some r=>some r
    |none=>wholeE H t' l j off n a)
   |some (.br _ l)=>partE H .c' l j sz off n a
   |_=>none
  |_=>none
 |_,_=>none
def setE(t:Ty)(l:List t.T)(j:Int)(off:Nat)(vs:List SC):Option (List t.T):=match putC (elC t l j) off vs with
 |some cs=>match t.rd0 cs with
  |some (x,[])=>some (zaJ l (zan j) x)
  |_=>none
 |none=>none
def stoE(H:List Ob)(id:Nat)(j:Int)(len:Nat)(o:Ob):Option Ro:=some ⟨[⟨0≤j∧j<(len:Int),inferInstance⟩],.u',art H id o,[(id,0,1)]⟩
def opStore(H:List Ob)(t:Nat)(x:SC)(v:SV):Option Ro:=match tSz C t,v.cells with
 |some n,some vs=>bif zav vs.length n then(match x with
  |.p' id off=>match ams H id with
   |some (.bl e cs)=>match putC cs off vs with
    |some cs'=>some ⟨[],.u',art H id (.bl e cs'),[(id,off,off+n)]⟩
    |none=>none
   |_=>none
  |.q' id j sz off=>bif zav n 0 then none else match ams H id with
   |some (.rw e b t' l)=>match setE t' l j off vs with
    |some l'=>bif (bif szOk sz j t' then t'.flat else false)then stoE H id j l.length (.rw e b t' l')else none
    |none=>none
   |some (.br m l)=>match v with
    |.c' y=>match y.rC with
     |some c=>bif (bif szOk sz j .c' then zav off 0 else false)then stoE H id j l.length (.br m (zaJ l (zan j) c))else none
     |none=>none
    |_=>none
   |_=>none
  |_=>none)else none
 |_,_=>none
def aui(t f:Nat)(x:SC):Option SV:=match fldAt C t f with
 |some q=>bif zav q.2.1 0 then none else match x with
  |.p' id off=>some (.c' (.p' id (off+q.1)))
  |.q' id j sz off=>some (.c' (.q' id j sz (off+q.1)))
  |_=>none
 |none=>none
def lenX(H:List Ob)(id:Nat):Option Nat:=match ams H id with
 |some (.rw _ _ t l)=>bif t.flat then some l.length else none
 |some (.ro t l)=>bif t.flat then some l.length else none
 |some (.br _ l)=>some l.length
 |_=>none
def aom(H:List Ob)(t:Nat)(x ix:SC):Option Ro:=match asI ix with
 |some j=>match slE C t with
  |some e=>match tSz C e with
   |some sz=>match x with
    |.l' id=>match lenX H id with
     |some m=>some ⟨[⟨0≤j∧j<(m:Int),inferInstance⟩],.c' (.q' id j sz 0),H,[]⟩
     |none=>none
    |.k' id m=>some ⟨[⟨0≤j∧j<(m:Int),inferInstance⟩],.c' (.p' id (j.toNat*sz)),H,[]⟩
    |_=>none
   |none=>none
  |none=>match arE C t with
   |some q=>match tSz C q.2 with
    |some sz=>match x with
     |.p' id off=>bif Nat.ble 2 q.1 then some ⟨[⟨0≤j∧j<(q.1:Int),inferInstance⟩],.c' (.p' id (off+j.toNat*sz)),H,[]⟩else none
     |.q' id j0 sz0 off0=>bif Nat.ble 2 q.1 then(bif zav sz0 0 then(bif zav off0 0 then some ⟨[⟨0≤j∧j<(q.1:Int),inferInstance⟩],.c' (.q' id j sz 0),H,[]⟩else none)else none)else none
     |_=>none
    |none=>none
   |none=>none
 |none=>none
def conS(H:List Ob)(s t:Nat)(x:SC):Option Ro:=match slE C s with
 |some e=>bif apm C t then(bif isU8 C e then(match contE H .c' x with
  |some l=>some ⟨[],.c' (.s' l),H,[]⟩
  |none=>none)else none)else none
 |none=>match x with
  |.s' l=>match slE C t with
   |some e=>bif apm C s then(bif isU8 C e then some ⟨[],.c' (.l' H.length),H++[.br l.length l],[]⟩else none)else none
   |none=>pur H (conC C s t x)
  |_=>pur H (conC C s t x)
def lenC(H:List Ob)(t:Nat)(x:SC):Rv:=match x with
 |.s' l=>bif apm C t then okC (.i' .i64 (l.length:Int))else none
 |x=>match slE C t with
  |some _=>(match x with
   |.l' id=>(match ams H id with
    |some o=>okC (.i' .i64 (o.len:Int))
    |none=>none)
   |.k' _ m=>okC (.i' .i64 (m:Int))
   |.n'=>okC (.i' .i64 (0:Int))
   |_=>none)
  |none=>none
def mmC(b:Builtin)(x y:SC):Rv:=match b,x,y with
 |.min,.i' k u,.i' k' v=>bif keq k k' then okC (.i' k (min u v))else none
 |.max,.i' k u,.i' k' v=>bif keq k k' then okC (.i' k (max u v))else none
 |_,_,_=>none
def blL:Option Ob→Nat
 |some (.bl _ cs)=>zbk cs.length
 |_=>1
def opAppend(H:List Ob)(t:Nat)(x y:SC):Option Ro:=match C.E t with
 |some (e,b,τ)=>match x with
  |.n'=>match contE H τ y with
   |some l2=>some ⟨[⟨(([]:List τ.T).length+l2.length)*b≤140737488355328,inferInstance⟩],.c' (.l' H.length),H++[.rw e b τ ([]++l2)],[]⟩
   |none=>none
  |.l' id=>match wOf H id (.l' e b τ),contE H τ y with
   |some l,some l2=>some ⟨[⟨(l.length+l2.length)*b≤140737488355328,inferInstance⟩],.c' (.l' H.length),art H id (.dd l.length)++[.rw e b τ (l++l2)],[(id,0,1)]⟩
   |_,_=>none
  |.k' id m=>match Ty.rd false H (.l' e b τ) 0 [.k' id m],contE H τ y with
   |some (l,_,_),some l2=>some ⟨[⟨(l.length+l2.length)*b≤140737488355328,inferInstance⟩],.c' (.l' H.length),art H id (.dd 0)++[.rw e b τ (l++l2)],[(id,0,blL (ams H id))]⟩
   |_,_=>none
  |_=>none
 |none=>none
def zU8(e:Nat):Bool:=match C.P.info? e with
 |some i=>(match i.zero with
  |some (.int .u8 (.ofNat 0))=>true
  |_=>false)
 |none=>false
def opAppendS(H:List Ob)(t s:Nat)(x:SC)(l2:Str):Option Ro:=bif apm C s then(match C.E t with
 |some (e,b,.c')=>bif zav b 1 then(bif zU8 C e then(match x with
  |.n'=>some ⟨[⟨(([]:Str).length+l2.length)*1≤140737488355328,inferInstance⟩],.c' (.l' H.length),H++[.rw e 1 .c' ([]++l2)],[]⟩
  |.l' id=>(match wOf H id (.l' e 1 .c')with
   |some l=>some ⟨[⟨(l.length+l2.length)*1≤140737488355328,inferInstance⟩],.c' (.l' H.length),art H id (.dd l.length)++[.rw e 1 .c' (l++l2)],[(id,0,1)]⟩
   |none=>none)
  |_=>none)else none)else none
 |_=>none)else none
def strSrc(H:List Ob)(t s:Nat)(x:SC):SC→Option Ro
 |.s' l2=>opAppendS C H t s x l2
 |_=>none
def ajq(ev:Operand→SV)(H:List Ob)(b:Builtin)(azq:List Operand)(ts:List Nat):Option Ro:=match b,azq,ts with
 |.len,[x],[t]=>pur H (on1 (ev x) (lenC C H t))
 |.append,[x,y],[t,t']=>bif zav t t' then on1 (ev x) fun a=>on1 (ev y) fun c=>opAppend C H t a c else on1 (ev x) fun a=>on1 (ev y) fun c=>strSrc C H t t' a c
 |b,[x,y],_=>pur H (on1 (ev x) fun a=>on1 (ev y) fun c=>mmC b a c)
 |_,_,_=>none
def fillP(sz:Nat→Option (Nat×Nat))(ev:Operand→SV):List (Nat×Operand)→List SC→Option (List SC)
 |[],l=>some l
 |p::ps,l=>match sz p.1,(ev p.2).cells with
  |some q,some vs=>bif zav vs.length q.2 then(match putC l q.1 vs with
   |some l'=>fillP sz ev ps l'
   |none=>none)else none
  |_,_=>none
def repC(z:List SC):Nat→List SC
 |0=>[]
 |n+1=>z++repC z n
def placesO:List Field→Option (List (Nat×Nat))
 |[]=>some []
 |f::fs=>match tSz C f.type with
  |some n=>match placesO fs with
   |some l=>some ((f.offset,n)::l)
   |none=>none
  |none=>none
def plOf(t:Nat):Option (Nat→Option (Nat×Nat)):=match C.P.underlying t with
 |some (.struct fs)=>match placesO C fs.toList with
  |some l=>some (ams l)
  |none=>none
 |some (.array _ e)=>match tSz C e with
  |some n=>some fun i=>some (i*n,n)
  |none=>none
 |_=>none
def opBuild(ev:Operand→SV)(t:Nat)(ps:List (Nat×Operand)):Option SV:=match zC C t,plOf C t with
 |some z,some pl=>match fillP pl ev ps z with
  |some cs=>some (.a' cs)
  |none=>none
 |_,_=>none
def aon(ev:Operand→SV)(H:List Ob)(t len:Nat)(ps:List (Nat×Operand)):Option Ro:=match slE C t with
 |some e=>match zC C e,tSz C e with
  |some z,some n=>bif zav z.length n then(bif Nat.ble (len*n) 100000 then(match fillP (fun i=>some (i*n,n)) ev ps (repC z len)with
   |some cs=>some ⟨[],.c' (.k' H.length len),H++[.bl e cs],[]⟩
   |none=>none)else none)else none
  |_,_=>none
 |none=>none
def isZ:Operand→Bool
 |.const (.int _ (.ofNat 0))=>true
 |_=>false
def isNN:Operand→Bool
 |.const (.int _ (.ofNat _))=>true
 |_=>false
def opMake(H:List Ob)(t:Nat)(z:Bool)(x y:SC):Option Ro:=match C.E t with
 |some (e,b,τ)=>bif z then(match asI y with
   |some c=>some ⟨[⟨0≤c∧(b:Int)*c≤281474976710656,dMk b c⟩],.c' (.l' H.length),H++[.rw e b τ []],[]⟩
   |_=>none)else none
 |none=>none
def capI:List SV→Option (List Nat)
 |[]=>some []
 |v::l=>match v with
  |.c' (.p' id off)=>bif zav off 0 then(match capI l with
   |some q=>some (id::q)
   |none=>none)else none
  |_=>none
def opFunc(ev:Operand→SV)(f:Fn)(first cap:List Operand):Option SV:=match f with
 |.func k=>match first with
  |[]=>match capI (cap.map ev)with
   |some ids=>some (.c' (.f' k ids))
   |none=>none
  |_=>none
 |_=>none
def opNil(x:SC):Option SV:=match x with
 |.p' id off=>some (.c' (.p' id off))
 |.q' id j sz off=>some (.c' (.q' id j sz off))
 |.f' k ids=>some (.c' (.f' k ids))
 |_=>none
def isPtr(t:Nat):Bool:=match C.P.underlying t with
 |some (.pointer _)=>true
 |_=>false
def isBool(t:Nat):Bool:=match C.P.underlying t with
 |some .bool=>true
 |_=>false
def isSl(t:Nat):Bool:=match C.P.underlying t with
 |some (.slice _)=>true
 |_=>false
def isEql:BinOp→Bool
 |.eql=>true
 |_=>false
def binN(z:Bool)(t:Nat)(b:BinOp)(x y:SC):Rv:=
 match x,y with
 |.p' _ _,.o' j=>bif zav j 0 then(bif isPtr C t then(bif isEql b then okC (.b' false)else none)else none)else none
 |.o' j,.o' j2=>bif zav j 0 then(bif zav j2 0 then(bif isPtr C t then(bif isEql b then okC (.b' true)else none)else none)else none)else none
 |.k' _ _,.n'=>bif isSl C t then(bif isEql b then okC (.b' false)else none)else none
 |.n',.n'=>bif isSl C t then(bif isEql b then okC (.b' true)else none)else none
 |x,y=>match x.rB,y.rB with
  |some u,some v=>bif isBool C t then bB b u v else none
  |_,_=>bin z b x y
def opSl(H:List Ob)(t:Nat)(x:SC)(lo hi:Option SC):Option Ro:=match x with
 |.l' id=>(match ams H id with
  |some (.ro τ l)=>(match slE C t with
   |some e=>(match tSz C e with
    |some sz=>bif zav sz τ.sz then(bif τ.flat then(match lo,hi with
     |none,some b=>(match asI b with
      |some j=>some ⟨[⟨0≤j∧j≤(l.length:Int),inferInstance⟩],.c' (.l' H.length),H++[.ro τ (zbt (zan j) l)],[]⟩
      |none=>none)
     |some a,none=>(match asI a with
      |some j=>some ⟨[⟨0≤j∧j≤(l.length:Int),inferInstance⟩],.c' (.l' H.length),H++[.ro τ (zaC (zan j) l)],[]⟩
      |none=>none)
     |_,_=>none)else none)else none
    |none=>none)
   |none=>none)
  |_=>none)
 |_=>none
def ixTab(t:Nat)(cs:List SC)(i:SC):Rv:=match arE C t with
 |some q=>bif apm C q.2 then(match tSz C q.2,tAg C q.2 with
  |some 1,some false=>(match rdAll .s' q.1 cs,asI i with
   |some l,some j=>gdC (0≤j∧j<(l.length:Int)) (.s' (elT .s' l j))
   |_,_=>none)
  |_,_=>none)else none
 |none=>none
def opM(ev:Operand→SV)(H:List Ob):Op→Option Ro
 |.move x=>val1 H (match ev x with
  |.u'=>none
  |v=>some v)
 |.assign x=>val1 H (match ev x with
  |.u'=>none
  |v=>some v)
 |.pick c a b=>on1 (ev c) fun x=>match x with
  |.b' t=>val1 H (match(bif t then ev a else ev b)with
   |.u'=>none
   |v=>some v)
  |_=>none
 |.binOp b t x y _=>pur H (on1 (ev x) fun a=>on1 (ev y) fun c=>binN C (isNN y) t b a c)
 |.unOp .not _ x=>pur H (on1 (ev x) notC)
 |.convert s t x=>on1 (ev x) (conS C H s t)
 |.index t x ix=>bif apm C t then pur H (on1 (ev x) fun a=>on1 (ev ix) fun i=>ixC a i)else(match ev x with
  |.a' cs=>pur H (on1 (ev ix) fun i=>ixTab C t cs i)
  |_=>none)
 |.slice t x lo hi none=>bif apm C t then pur H (on1 (ev x) fun a=>onO ev lo fun i=>onO ev hi fun j=>cutC a i j)else on1 (ev x) fun a=>onO ev lo fun i=>onO ev hi fun j=>opSl C H t a i j
 |.extract x i=>match ev x with
  |.t' l=>match ams l i with
   |some y=>some ⟨[],y.sv,H,[]⟩
   |none=>none
  |_=>none
 |.field t x f=>match ev x with
  |.a' l=>match fldAt C t f with
   |some q=>val1 H (partC l q.1 q.2.1 q.2.2)
   |none=>none
  |_=>none
 |.build t ps=>val1 H (opBuild C ev t ps.toList)
 |.alloc e=>match zC C e with
  |some z=>some ⟨[],.c' (.p' H.length 0),H++[.bl e z],[]⟩
  |none=>none
 |.box e v=>match(ev v).cells with
  |some cs=>some ⟨[],.c' (.p' H.length 0),H++[.bl e cs],[]⟩
  |none=>none
 |.buildSlice t n ps=>aon C ev H t n ps.toList
 |.load t x=>on1 (ev x) fun a=>opLoad C H t a
 |.store t x v=>on1 (ev x) fun a=>opStore C H t a (ev v)
 |.fieldAddr t x f=>on1 (ev x) fun a=>val1 H (aui C t f a)
 |.indexAddr t x ix=>on1 (ev x) fun a=>on1 (ev ix) fun i=>aom C H t a i
 |.makeSlice t n c=>on1 (ev n) fun a=>on1 (ev c) fun i=>opMake C H t (isZ n) a i
 |.makeFunc f a b=>val1 H (opFunc ev f a.toList b.toList)
 |.nilCheck x=>on1 (ev x) fun a=>val1 H (opNil a)
 |.call c=>match c.callee with
  |.builtin b=>ajq C ev H b c.args.toList c.argTypes.toList
  |_=>none
 |_=>none
def opP(ev:Operand→SV)(H:List Ob)(op:Op):Option Ro:=match op with
 |.convert s t x=>pur H (on1 (ev x) (conC C s t))
 |.slice t x lo hi mx=>bif apm C t then opM C ev H (.slice t x lo hi mx)else none
 |op=>opM C ev H op
end
inductive Ex where
 |nm
 |xt (id:Nat)
abbrev Rg:=Nat×Nat×Nat
inductive Sc where
 |n'
 |s' (a b:Sc)
 |j' (J:List Key) (R:List Nat) (a b:Sc)
 |r' (J:List Key) (R:List Nat) (a b:Sc)
 |l' (J:List Key) (a:Sc)
 |y' (a:Sc)
 |z' (a:Sc)
def Sc.A:Sc→Sc
 |.s' a _=>a
 |.j' _ _ a _=>a
 |.r' _ _ a _=>a
 |.l' _ a=>a
 |.y' a=>a
 |_=>.n'
def Sc.B:Sc→Sc
 |.s' _ b=>b
 |.j' _ _ _ b=>b
 |.r' _ _ _ b=>b
 |.z' b=>b
 |_=>.n'
def avk(t:Nat):List Nat→Bool
 |[]=>false
 |x::l=>bif zav t x then true else avk t l
def disN(l r:List Nat):Bool:=match l with
 |[]=>true
 |x::l=>bif avk x r then false else disN l r
def nodN:List Nat→Bool
 |[]=>true
 |x::l=>bif avk x l then false else nodN l
def cov(id j:Nat):List Rg→Bool
 |[]=>false
 |q::l=>bif zav q.1 id then(bif Nat.ble q.2.1 j then(bif zbh j q.2.2 then true else cov id j l)else cov id j l)else cov id j l
def covs(id lo:Nat)(al:List Rg):Nat→Bool
 |0=>true
 |n+1=>bif cov id (lo+n) al then covs id lo al n else false
def St.ok(S:St)(q:Rg):Bool:=bif zbh q.1 S.nb then covs q.1 q.2.1 S.al (q.2.2-q.2.1)else true
def St.oks(S:St):List Rg→Bool
 |[]=>true
 |x::l=>bif S.ok x then S.oks l else false
def ownS:List Src→List Nat
 |[]=>[]
 |s::l=>s.own++ownS l
def borS:List Src→List Nat
 |[]=>[]
 |s::l=>s.bor++borS l
def wholeO(H:List Ob)(id:Nat):Rg:=(id,0,match ams H id with
 |some (.bl _ cs)=>zbk cs.length
 |_=>1)
def cellsO(H:List Ob)(id:Nat):Rg:=(id,0,match ams H id with
 |some (.bl _ cs)=>cs.length
 |_=>1)
def cellsL(H:List Ob):List Nat→List Rg
 |[]=>[]
 |x::l=>cellsO H x::cellsL H l
def aok(H:List Ob):List Nat→List Rg
 |[]=>[]
 |x::l=>wholeO H x::aok H l
def St.take(S:St)(ss:List Src):Bool:=bif nodN (ownS ss)then S.oks (aok S.H (ownS ss))else false
def kill(H:List Ob):List Nat→List Ob
 |[]=>H
 |x::l=>kill (art H x (.dd (lenH H x))) l
def unk:List SC→Nat→Nat→List SC
 |[],_,_=>[]
 |x::l,lo,n=>match lo with
  |lo+1=>x::unk l lo n
  |0=>match n with
   |0=>x::l
   |n+1=>.u'::unk l 0 n
def aqm(H:List Ob):List Rg→List Ob
 |[]=>H
 |q::l=>match ams H q.1 with
  |some (.bl e cs)=>aqm (art H q.1 (.bl e (unk cs q.2.1 (q.2.2-q.2.1)))) l
  |_=>aqm (art H q.1 (.dd (lenH H q.1))) l
def rgK(ix:Nat→Nat):List Key→List Rg
 |[]=>[]
 |k::l=>match k with
  |.s' _ _=>rgK ix l
  |.o' t off x=>(ix t,off,off+x.cn)::rgK ix l
  |.w' t _=>(ix t,0,1)::rgK ix l
def apn:Option Ob→Bool
 |some (.rw _ _ _ _)=>true
 |some (.br _ _)=>true
 |_=>false
def rowsC(H:List Ob):List SC→List Nat
 |[]=>[]
 |x::l=>match x with
  |.l' id=>bif apn (ams H id)then id::rowsC H l else rowsC H l
  |.k' id _=>match ams H id with
   |some (.bl _ _)=>id::rowsC H l
   |_=>rowsC H l
  |_=>rowsC H l
def Ty.hasR:Ty→Bool
 |.w' x=>x.hasR
 |.pr x y=>bif x.hasR then true else y.hasR
 |.l' _ _ _=>true
 |.y'=>true
 |_=>false
def eatK(ix:Nat→Nat)(F:Nat→SV)(H:List Ob):List Key→List Nat
 |[]=>[]
 |k::l=>(match k with
  |.s' t x=>bif x.hasR then(match(F t).cells with
   |some cs=>rowsC H cs
   |none=>[])else []
  |.o' t off x=>bif x.hasR then(match ams H (ix t)with
   |some (.bl _ cs)=>match ltake (ldrop cs off) x.cn with
    |some q=>rowsC H q
    |none=>[]
   |_=>[])else []
  |.w' _ _=>[])++eatK ix F H l
def Key.slots:List Key→List Nat
 |[]=>[]
 |k::l=>match k with
  |.s' t _=>t::Key.slots l
  |_=>Key.slots l
def del(F:Tr SV):List Nat→Tr SV
 |[]=>F
 |x::l=>del (F.set x .u') l
def wrO:List Oper→List Nat
 |[]=>[]
 |o::l=>match o.dst with
  |some d=>d::wrO l
  |none=>wrO l
noncomputable def wr(c:Code):List Nat:=Code.rec [] (fun _ ops _=>wrO ops.toList) (fun _ _ a b=>a++b) (fun _ _ _ a b=>a++b) (fun _ _ a=>a) (fun _ a=>a) (fun _ ps _ _ a b=>ps.toList++(a++b))
 (fun _=>[]) (fun _ a=>a) (fun _=>[]) (fun _=>[]) [] (fun _=>[]) c
def SV.pid:SV→Nat
 |.c' (.p' id _)=>id
 |.c' (.l' id)=>id
 |.c' (.k' id _)=>id
 |.c' (.f' _ (id::_))=>id
 |_=>0
def St.ix(S:St)(t:Nat):Nat:=(S.at t).pid
def St.eat(S:St)(J:List Key):List Nat:=eatK S.ix S.at S.H J
def St.rgs(S:St)(J:List Key):List Rg:=rgK S.ix J++aok S.H (S.eat J)
def disR:List Rg→Bool
 |[]=>true
 |q::l=>bif (disQ q l)then disR l else false
where disQ (q:Rg):List Rg→Bool
 |[]=>true
 |r::l=>bif zav q.1 r.1 then(bif Nat.ble q.2.2 r.2.1 then disQ q l else(bif Nat.ble r.2.2 q.2.1 then disQ q l else false))else disQ q l
def chkK(S:St):List Key→Bool
 |[]=>true
 |k::l=>bif (match k with
  |.o' t off x=>(match ams S.H (S.ix t)with
   |some (.bl _ cs)=>Nat.ble (off+x.cn) cs.length
   |_=>false)
  |.w' t x=>apn (ams S.H (S.ix t))
  |_=>true)then chkK S l else false
def St.okJ(S:St)(J:List Key):Bool:=bif S.oks (S.rgs J)then(bif disR (S.rgs J)then(bif nodN (Key.slots J)then chkK S J else false)else false)else false
def St.into(S:St):St:=⟨S.F,S.H,S.nb,S.al,[]⟩
def subR(n:Nat)(al:List Rg):List Rg→Bool
 |[]=>true
 |q::l=>bif (bif zbh q.1 n then covs q.1 q.2.1 al (q.2.2-q.2.1)else true)then subR n al l else false
def tk(S:St)(J:List Key)(ss:List Src):Bool:=bif nodN (ownS ss)then tkI S.H.length (S.eat J) (ownS ss)else false
where tkI (n:Nat) (e:List Nat):List Nat→Bool
 |[]=>true
 |id::l=>bif (bif Nat.ble n id then true else avk id e)then tkI n e l else false
def leaf(S:St)(J:List Key)(S2:St):Option (keyT J).T:=match rdK S.ix S2.at S2.H J with
 |some (v,ss)=>bif tk S J ss then(bif subR S.H.length (S.rgs J) S2.m then some v else none)else none
 |none=>none
def St.out(S:St)(J:List Key)(w:List Nat)(v:(keyT J).T):St:=match putK S.ix (del S.F w,kill (aqm S.H (rgK S.ix J)) (S.eat J)) J v with
 |(F,H)=>⟨F,H,S.nb,S.al,S.rgs J++S.m⟩
def St.head(S:St)(J:List Key)(w:List Nat)(v:(keyT J).T):St:=match putK S.ix (del S.F w,kill (aqm S.H (rgK S.ix J)) (S.eat J)) J v with
 |(F,H)=>⟨F,H,S.nb,S.al,[]⟩
def St.as(S2 S:St)(J:List Key):St:=⟨S2.F,S2.H,S2.nb,S2.al,S2.m++(S.rgs J++S.m)⟩
section
variable (C : Cx) (τ : Ty) (res : St → Option τ.T)
def dstOk(d:Option Nat)(v:SV):Bool:=match d,v with
 |none,.u'=>true
 |none,_=>false
 |some _,.u'=>false
 |some _,_=>true
def St.run(S:St)(d:Option Nat)(v:SV)(H:List Ob)(m:List Rg):Option St:=bif dstOk d v then(bif S.oks m then some (St.setO ⟨S.F,H,S.nb,S.al,m++S.m⟩ d v)else none)else none
def ixS(ss:List Src)(j:Nat):Nat:=match ams ss j with
 |some (.o' id _)=>id
 |_=>0
def Rk.ids:List Rk→List Nat
 |[]=>[]
 |k::l=>match k with
  |.r' _=>Rk.ids l
  |.o' id _ _=>id::Rk.ids l
  |.w' id _=>id::Rk.ids l
def axa(outs:List Nat):List Ob→Nat→List Src→List Nat
 |[],_,_=>[]
 |_::_,_,[]=>[]
 |o::obs,j,s::ss=>(bif apn (some o)then(bif avk j outs then []else s.own)else [])++axa outs obs (j+1) ss
def outIds(ss:List Src):List Nat→List Nat
 |[]=>[]
 |j::l=>ixS ss j::outIds ss l
def callM(c:Con)(S:St)(a:(tupT c.a).T)(ss:List Src):List Rg:=aok S.H (axa (Rk.ids c.r) (asc [] c.a a).2 0 ss)++cellsL S.H (outIds ss (Rk.ids c.r))
def callS(c:Con)(S:St)(d:Option Nat)(a:(tupT c.a).T)(ss:List Src)(y:(resT c.r).T):St:=
 match putR (ixS ss) ([],kill S.H (axa (Rk.ids c.r) (asc [] c.a a).2 0 ss)) c.r y with
 |(l,H)=>St.setO ⟨S.F,H,S.nb,S.al,callM c S a ss++S.m⟩ d (resV l)
def Ty.nb:Ty→Bool
 |.w' x=>x.nb
 |.pr x y=>bif x.nb then y.nb else false
 |.r' _=>false
 |.p' _ x=>x.nb
 |.f' _ x=>x.nb
 |_=>true
def rkOk(H:List Ob)(ss:List Src):List Rk→Bool
 |[]=>true
 |k::l=>bif (match k with
  |.r' x=>bif x.tz then false else x.nb
  |.o' j e x=>bif x.nb then(match ams ss j with
   |some (.o' id w)=>bif w then(match ams H id with
    |some (.bl e2 cs)=>bif zav e2 e then zav cs.length x.cn else false
    |_=>false)else false
   |_=>false)else false
  |.w' j x=>(match ams ss j with
   |some (.o' id w)=>bif w then apn (ams H id)else false
   |_=>false))then rkOk H ss l else false
def callOk(c:Con)(S:St)(a:(tupT c.a).T)(ss:List Src):Bool:=
 bif nodN (ownS ss)then(bif disN (borS ss) (ownS ss)then(bif rkOk S.H ss c.r then S.oks (callM c S a ss)else false)else false)else false
def callL{ρ:Ty}(S:St)(d:Option Nat)(vs:List SV)(κ:St→Option ρ.T):List Con→Option ρ.T
 |[]=>none
 |c::l=>match rdA S.H c.a vs with
  |some (a,ss)=>bif callOk c S a ss then(c.f a).bd fun y=>κ (callS c S d a ss y)else none
  |none=>callL S d vs κ l
def callD{ρ:Ty}(S:St)(d:Option Nat)(k:Nat)(vs:List SV)(κ:St→Option ρ.T):Option ρ.T:=callL S d vs κ (C.X k)
def fnV:SV→Option (Nat×List Nat)
 |.c' (.f' k ids)=>some (k,ids)
 |_=>none
def capV:List Nat→List SV
 |[]=>[]
 |id::l=>.c' (.p' id 0)::capV l
def run1{ρ:Ty}(S:St)(d:Option Nat)(op:Op)(κ:St→Option ρ.T):Option ρ.T:=
 match opM C (S.ev C) S.H op with
 |some ⟨g,v,H,m⟩=>match S.run d v H m with
  |some S2=>gdL g (κ S2)
  |none=>none
 |none=>match op with
  |.call c=>match c.callee with
   |.value f=>match fnV (S.ev C f)with
    |some (k,ids)=>callD C S d k (c.args.toList.map (S.ev C)++capV ids) κ
    |none=>none
   |_=>none
  |_=>none
def isG(ops:List Oper)(i:Nat):Bool:=match ops with
 |[]=>false
 |o::l=>match o.guard with
  |some q=>bif zav q.1 i then true else isG l i
  |none=>isG l i
def brB{ρ:Type}(v:SV)(y n:Option ρ):Option ρ:=match v with
 |.c' (.b' x)=>bif x then y else n
 |.c' (.d' p h)=> @ite _ p h y n
 |.c' (.e' p h)=> @ite _ p h n y
 |_=>none
def isMove:Op→Option Operand
 |.move x=>some x
 |.assign x=>some x
 |_=>none
def run2{ρ:Ty}(ops:List Oper)(i:Nat)(S:St)(o:Oper)(κ:St→Option ρ.T):Option ρ.T:=
 bif isG ops i then(match isMove o.op with
  |some x=>match o.dst with
   |some d=>brB (S.ev C x) (κ (S.set d (.c' (.b' true)))) (κ (S.set d (.c' (.b' false))))
   |none=>none
  |none=>run1 C S o.dst o.op κ)
 else run1 C S o.dst o.op κ
def beqB(a b:Bool):Bool:=bif a then b else !b
def gdst(ops:List Oper)(i:Nat):Option Nat:=match ams ops i with
 |some o=>o.dst
 |none=>none
def run3{ρ:Ty}(ops:List Oper)(i:Nat)(S:St)(o:Oper)(κ:St→Option ρ.T):Option ρ.T:=
 match o.guard with
 |none=>run2 C ops i S o κ
 |some q=>match gdst ops q.1 with
  |some dg=>bif zbh dg C.nn then(match S.at dg with
   |.c' (.b' x)=>bif beqB x q.2 then run2 C ops i S o κ else(match o.dst with
    |some d=>κ (S.set d .n')
    |none=>none)
   |.n'=>(match o.dst with
    |some d=>κ (S.set d .n')
    |none=>none)
   |_=>none)else none
  |none=>none
def opsD{ρ:Ty}(ops:List Oper):List Oper→Nat→St→(St→Option ρ.T)→Option ρ.T
 |[],_,S,κ=>κ S
 |o::l,i,S,κ=>run3 C ops i S o fun S2=>opsD ops l (zbk i) S2 κ
def opndS:List Operand→List Nat
 |[]=>[]
 |x::l=>match x with
  |.tmp t=>t::opndS l
  |_=>opndS l
def quietO:Op→Bool
 |.move _=>true
 |.assign _=>true
 |.pick _ _ _=>true
 |.binOp _ _ _ _ _=>true
 |.unOp _ _ _=>true
 |.convert _ t _=> !isSl C t
 |.index _ _ _=>true
 |.slice t _ _ _ _=>apm C t
 |.extract _ _=>true
 |.field _ _ _=>true
 |.build _ _=>true
 |.fieldAddr _ _ _=>true
 |.load _ _=>true
 |.indexAddr _ _ _=>true
 |.makeFunc _ _ _=>true
 |.nilCheck _=>true
 |.call c=>match c.callee with
  |.builtin .len=>true
  |.builtin .min=>true
  |.builtin .max=>true
  |_=>false
 |_=>false
def avq:SV→List Nat
 |.c' (.p' id _)=>[id]
 |.c' (.q' id _ _ _)=>[id]
 |.c' (.l' id)=>[id]
 |.c' (.k' id _)=>[id]
 |_=>[]
def footL(ev:Operand→SV):List Operand→List Nat
 |[]=>[]
 |x::l=>avq (ev x)++footL ev l
def footO(ev:Operand→SV):Op→List Nat
 |.load _ x=>avq (ev x)
 |.indexAddr _ x _=>avq (ev x)
 |.convert _ _ x=>avq (ev x)
 |.call c=>footL ev c.args.toList
 |_=>[]
def fsts(n:Nat):List Rg→List Nat
 |[]=>[]
 |q::l=>match n with
  |0=>[]
  |n+1=>q.1::fsts n l
def lenR:List Rg→Nat
 |[]=>0
 |_::l=>zbk (lenR l)
def flatA:List Ty→Bool
 |[]=>true
 |x::l=>bif zav x.no 0 then flatA l else false
def flatR:List Rk→Bool
 |[]=>true
 |k::l=>match k with
  |.r' x=>bif zav x.no 0 then flatR l else false
  |_=>false
def flatX:List Con→Bool
 |[]=>true
 |c::l=>bif flatA c.a then(bif flatR c.r then flatX l else false)else false
def qt(op:Op):Bool:=bif quietO C op then true else(match op with
 |.call c=>(match c.callee with
  |.value (.func k)=>flatX (C.X k)
  |_=>false)
 |_=>false)
def entry(S S2:St)(o:Oper):Bool×List Nat:=bif qt C o.op then(false,footO (S.ev C) o.op)else(true,fsts (Nat.sub (lenR S2.m) (lenR S.m)) S2.m)
def opsT{ρ:Ty}(ops:List Oper):List Oper→Nat→St→List (Bool×List Nat)→(St→List (Bool×List Nat)→Option ρ.T)→Option ρ.T
 |[],_,S,tr,κ=>κ S tr
 |o::l,i,S,tr,κ=>run3 C ops i S o fun S2=>opsT ops l (zbk i) S2 (tr++[entry C S S2 o]) κ
def ancO(A:List (List Nat)):List Edge→List Nat
 |[]=>[]
 |e::l=>bif Region.binds .any e then(e.on::(match ams A e.on with
  |some a=>a
  |none=>[]))++ancO A l else ancO A l
def ancs:List Oper→List (List Nat)→List (List Nat)
 |[],A=>A
 |o::l,A=>ancs l (A++[ancO A o.after.toList])
def aru(A:List (List Nat))(i:Nat):List Nat:=match ams A i with
 |some a=>a
 |none=>[]
def backE:List Oper→Nat→Bool
 |[],_=>true
 |o::l,i=>bif o.after.toList.all (fun e=>bif Region.binds .any e then zbh e.on i else true)then backE l (zbk i)else false
def gslot(ops:List Oper)(o:Oper):List Nat:=match o.guard with
 |some q=>(match gdst ops q.1 with
  |some d=>[d]
  |none=>[])
 |none=>[]
def ordd(A:List (List Nat))(i j:Nat):Bool:=bif avk i (aru A j)then true else avk j (aru A i)
def opndOk(A:List (List Nat))(i:Nat)(rd:List Nat):List Oper→Nat→Bool
 |[],_=>true
 |o::l,j=>bif (match o.dst with
  |some d=>bif avk d rd then(bif zav i j then true else ordd A i j)else true
  |none=>true)then opndOk A i rd l (zbk j)else false
def opndsOk(ops:List Oper)(A:List (List Nat))(all:List Oper):List Oper→Nat→Bool
 |[],_=>true
 |o::l,i=>bif opndOk A i (opndS o.op.operands.toList++gslot ops o) all 0 then opndsOk ops A all l (zbk i)else false
def memOk1(A:List (List Nat))(i:Nat)(q:Bool×List Nat):List (Bool×List Nat)→Nat→Bool
 |[],_=>true
 |p::l,j=>bif (bif zav i j then true else(bif ordd A i j then true else(bif p.1 then(bif q.1 then false else disN q.2 p.2)else true)))then memOk1 A i q l (zbk j)else false
def memOk(A:List (List Nat))(all:List (Bool×List Nat)):List (Bool×List Nat)→Nat→Bool
 |[],_=>true
 |q::l,i=>bif memOk1 A i q all 0 then memOk A all l (zbk i)else false
def ast{α:Type}:List α→Nat→List α
 |[],_=>[]
 |x::l,k=>match k with
  |0=>[]
  |k+1=>x::ast l k
def drawK(ops:Array Oper):Nat→Option Nat
 |0=>bif atl ops 0 then some 0 else none
 |k+1=>bif atl ops (zbk k)then(match drawK ops k with
  |some j=>some j
  |none=>some (zbk k))else none
def drawnD{ρ:Ty}(ops:Array Oper)(S:St)(κ:St→Option ρ.T):Option ρ.T:=bif C.P.follows .mixedOrders then(match drawK ops ops.size with
 |some k=>(fun l=>(fun A=>bif Region.seqB .any ops (Nat.sub ops.size k) k (List.replicate k true++List.replicate (Nat.sub ops.size k) false).toArray then(bif backE l 0 then(bif nodN (wrO l)then(bif opndsOk ops.toList A l l 0 then
   opsT C ops.toList l 0 S [] (fun S2 tr=>bif memOk A tr tr 0 then opsD C ops.toList (ldrop ops.toList k) k S2 κ else none)else none)else none)else none)else none) (ancs l [])) (ast ops.toList k)
 |none=>none)else none
abbrev Dn(τ:Ty):=Sc→St→(ρ:Ty)→(τ.T→Option ρ.T)→(Ex→St→Option ρ.T)→Option ρ.T
def dSkip:Dn τ:=fun _ S _ _ κ=>κ .nm S
def dNone:Dn τ:=fun _ _ _ _ _=>none
def dRegion(ops:Array Oper)(d:Bool):Dn τ:=fun _ S _ _ κ=>bif d then drawnD C ops S (fun S2=>κ .nm S2)else opsD C ops.toList ops.toList 0 S fun S2=>κ .nm S2
def thenK{ρ:Type}(κ:Ex→St→Option ρ)(f:St→Option ρ):Ex→St→Option ρ
 |.nm,S=>f S
 |.xt i,S=>κ (.xt i) S
def noK{ρ:Type}:Ex→St→Option ρ:=fun _ _=>none
def leafR(S:St)(J:List Key)(S2:St):Option (Ty.sm (keyT J) τ).T:=match leaf S J S2 with
 |some v=>some (.inl v)
 |none=>none
def again(ops:List Oper):List Nat→St→St
 |[],S=>S
 |i::R,S=>again ops R (match ams ops i with
  |some o=>(match o.dst with
   |some d=>(match opP C (S.ev C) S.H o.op with
    |some ⟨[],v,_,_⟩=>S.set d v
    |_=>S)
   |none=>S)
  |none=>S)
def avv:Code→List Oper
 |.region _ ops d=>bif d then []else ops.toList
 |_=>[]
def isPure:Op→Bool
 |.move _=>true
 |.assign _=>true
 |.binOp _ _ _ _ _=>true
 |.unOp _ _ _=>true
 |.convert _ _ _=>true
 |.index _ _ _=>true
 |.extract _ _=>true
 |.field _ _ _=>true
 |.build _ _=>true
 |.fieldAddr _ _ _=>true
 |.slice _ _ _ _ _=>true
 |_=>false
def okR1(ops:List Oper)(i:Nat):Bool:=match ams ops i with
 |some o=>bif o.guard.isNone then(bif isPure o.op then(match o.dst with
  |some d=>(bif avk d (wrO (ldrop ops (zbk i)))then false else disN (opndS o.op.operands.toList) (d::wrO (ldrop ops (zbk i))))
  |none=>false)else false)else false
 |none=>false
def okR(ops:List Oper):List Nat→Bool
 |[]=>true
 |i::R=>bif okR1 ops i then okR ops R else false
def dSeq(x:Code)(w:List Nat)(a b:Dn τ):Dn τ:=fun sc S ρ ps κ=>match sc with
 |.j' J R sa sb=>bif S.okJ J then(bif okR (avv x) R then Option.bind (a sa S.into (keyT J) (fun _=>none) (thenK noK (leaf S J))) fun v=>b sb (again C (avv x) R (S.out J w v)) ρ ps κ else none)else none
 |.r' J R sa sb=>bif S.okJ J then(bif okR (avv x) R then Option.bind (a sa S.into (.sm (keyT J) τ) (fun r=>some (.inr r)) (thenK noK (leafR τ S J))) fun j=>zaO (fun v=>b sb (again C (avv x) R (S.out J w v)) ρ ps κ) (fun q=>ps q) j else none)else none
 |sc=>a sc.A S ρ ps (thenK κ fun S2=>b sc.B S2 ρ ps κ)
def dCond(c:Operand)(a b:Dn τ):Dn τ:=fun sc S ρ ps κ=>match sc with
 |.y' sa=>brB (S.ev C c) (a sa S ρ ps κ) none
 |.z' sb=>brB (S.ev C c) none (b sb S ρ ps κ)
 |sc=>brB (S.ev C c) (a sc.A S ρ ps κ) (b sc.B S ρ ps κ)
def hereK{ρ:Type}(id:Nat)(κ:Ex→St→Option ρ):Ex→St→Option ρ
 |.nm,S=>κ .nm S
 |.xt i,S=>bif zav i id then κ .nm S else κ (.xt i) S
def dBlock(id:Nat)(a:Dn τ):Dn τ:=fun sc S ρ ps κ=>a sc S ρ ps (hereK id κ)
def backK{ρ:Type}{T:Type}(lf:St→Option T)(g:T→Option ρ)(S:St):Option ρ:=match lf S with
 |some v=>g v
 |none=>none
def dLoop(w:List Nat)(a:Dn τ):Dn τ:=fun sc S ρ ps κ=>match sc with
 |.l' J sa=>bif S.okJ J then(match leaf S J S.into with
  |some v=>loopF (fun g v=>a sa (S.head J w v) ρ ps (thenK (fun e S2=>κ e (S2.as S J)) (backK (leaf S J) g))) C.fu v
  |none=>none)else none
 |_=>none
def dRet:Dn τ:=fun _ S _ ps _=>match res S with
 |some r=>ps r
 |none=>none
noncomputable def den(c:Code):Dn τ:=Code.rec (motive:=fun _=>Dn τ) (dSkip τ) (fun _ ops d=>dRegion C τ ops d) (fun x _ a b=>dSeq C τ x (wr x) a b) (fun c _ _ a b=>dCond C τ c a b) (fun id _ a=>dBlock τ id a) (fun x a=>dLoop C τ (wr x) a) (fun _ _ _ _ _ _=>dNone τ)
 (fun id _ S _ _ κ=>κ (.xt id) S) (fun _ a=>a) (fun _=>dSkip τ) (fun _=>dNone τ) (dRet τ res) (fun _=>dNone τ) c
end
def resOf(C:Cx)(S:St):ResultVar→SV
 |.tmp t=>bif zbh t C.nn then S.at t else .u'
 |.cell a t=>match bif zbh a C.nn then S.at a else .u' with
  |.c' x=>match opLoad C S.H t x with
   |some ⟨[],v,_,_⟩=>v
   |_=>.u'
  |_=>.u'
def resD(C:Cx)(nb:Nat)(al:List Rg)(rs:List ResultVar)(r:List Rk)(S:St):Option (resT r).T:=match rdR S.H r (rs.map (resOf C S))with
 |some (x,ss)=>bif St.take ⟨S.F,S.H,nb,al,[]⟩ ss then(bif disN (ownS ss) (Rk.ids r)then some x else none)else none
 |none=>none
def endK{ρ:Type}(res:St→Option ρ):Ex→St→Option ρ
 |.nm,S=>res S
 |.xt _,_=>none
def setL(F:Tr SV):Nat→List SV→Tr SV
 |_,[]=>F
 |t,v::vs=>setL (F.set t v) (t+1) vs
def alOf(r:List Rk):List Ob→List Ob→Nat→List Rg
 |_,[],_=>[]
 |H,o::l,j=>(bif apn (some o)then [(j,0,1)]else(bif avk j (Rk.ids r)then [cellsO H j]else []))++alOf r H l (j+1)
def st0(gs:List Ob)(a:List Ty)(r:List Rk)(x:(tupT a).T):St:=match asc [] a x with
 |(vs,H)=>⟨setL Tr.e 0 vs,H++gs,(H++gs).length,alOf r H H 0,[]⟩
def isRowT:Ty→Bool
 |.l' _ _ _=>true
 |.y'=>true
 |_=>false
def outsK(H:List Ob):List Rk→Bool
 |[]=>true
 |k::l=>bif (match k with
  |.r' _=>true
  |.o' id e x=>(match ams H id with
   |some (.bl e2 cs)=>bif zav e2 e then zav cs.length x.cn else false
   |_=>false)
  |.w' id x=>bif apn (ams H id)then isRowT x else false)then outsK H l else false
def noTz:List Ty→Bool
 |[]=>true
 |x::l=>bif x.tz then false else noTz l
def denF(C:Cx)(gs:List Ob)(c:Code)(rs:List ResultVar)(sc:Sc)(a:List Ty)(r:List Rk)(x:(tupT a).T):Option (resT r).T:=
 match st0 gs a r x with
 |⟨F,H,nb,al,m⟩=>bif (bif noTz a then(bif nodN (Rk.ids r)then outsK (asc [] a x).2 r else false)else false)then den C (resT r) (resD C nb al rs r) c sc ⟨F,H,nb,al,m⟩ (resT r) some (endK (resD C nb al rs r))else none
end
end Go.Oe
namespace Go.Ce
open Go.Wk
open List renaming length_map → zaK
open Nat renaming beq → zav, eq_of_beq_eq_true → zag, lt_succ_self → zaZ
theorem bi_ite{α:Type}(c:Bool)(x y:α):bi c x y=if c=true then x else y:=by cases c<;>rfl
theorem beq_dec(a b:Nat):(zav a b=true)=(a=b):=propext ⟨zag,fun h=>by subst h;exact Nat.beq_refl a⟩
def Pk.val:Pk→Nat
 |.h=>0
 |.o p=>2*p.val+2
 |.i p=>2*p.val+1
theorem pkF_val:∀(f k:Nat),k<f→(pkF f k).val=k
 |0,k,h=>by omega
 |f+1,k,h=>by
  show(bi (zav k 0) Pk.h (bi (zav (k%2) 1) (Pk.i (pkF f (k/2))) (Pk.o (pkF f (k/2-1))))).val=k
  simp only [bi_ite,beq_dec]
  by_cases h0:k=0
  ·rw [if_pos h0,h0];rfl
  ·rw [if_neg h0]
   by_cases h1:k%2=1
   ·rw [if_pos h1]
    show 2*(pkF f (k/2)).val+1=k
    rw [pkF_val f _ (by omega)];omega
   ·rw [if_neg h1]
    show 2*(pkF f (k/2-1)).val+2=k
    rw [pkF_val f _ (by omega)];omega
theorem pk_val(k:Nat):(pk k).val=k:=pkF_val (k+1) k (zaZ k)
theorem pk_inj{k k':Nat}(h:pk k=pk k'):k=k':=by rw [←pk_val k,h,pk_val]
theorem awy{α:Type}(x:α):∀(p:Pk) (t:Tr α),Tr.getP p (Tr.setP x p t)=some x
 |.h,t=>rfl
 |.o p,t=>awy x p t.R
 |.i p,t=>awy x p t.L
theorem get_setP_ne{α:Type}(x:α):∀(p q:Pk) (t:Tr α),q≠p→Tr.getP q (Tr.setP x p t)=Tr.getP q t
 |.h,.h,t,h=>absurd rfl h
 |.h,.o q,t,_=>rfl
 |.h,.i q,t,_=>rfl
 |.o p,.h,t,_=>rfl
 |.o p,.o q,t,h=>get_setP_ne x p q t.R fun e=>h (by rw [e])
 |.o p,.i q,t,_=>rfl
 |.i p,.h,t,_=>rfl
 |.i p,.o q,t,_=>rfl
 |.i p,.i q,t,h=>get_setP_ne x p q t.L fun e=>h (by rw [e])
theorem Tr.get_set{α:Type}(t:Tr α)(k k':Nat)(x:α):(t.set k x).get k'=if k'=k then some x else t.get k':=by
 by_cases h:k'=k
 ·subst h
  rw [if_pos rfl]
  exact awy x _ _
 ·rw [if_neg h]
  exact get_setP_ne x _ _ _ fun e=>h (pk_inj e)
theorem getP_e{α:Type}:∀p:Pk,Tr.getP p (.e:Tr α)=none
 |.h=>rfl
 |.o p=>getP_e p
 |.i p=>getP_e p
theorem Tr.get_e{α:Type}(k:Nat):(Tr.e:Tr α).get k=none:=getP_e _
section
variable {α : Type}
end
abbrev En:=Nat→Nat×Nat
def Cp.re(E:En)(j:Nat):Cp→Nat
 |.k c=>c
 |.r off=>(E j).2-off
def SC.re(E:En):SC→Value
 |.b x=>.bool x
 |.i k n=>.int k (k.wrap (n:Int))
 |.s l x=>str (dec l x)
 |.np=>.pointer none
 |.ns=>.slice none 0 0
 |.nf=>.nilFunc
 |.ni=>.nilIface
 |.p j off=>.pointer (some ⟨(E j).1,off,none⟩)
 |.g j off=>.pointer (some ⟨j,off,none⟩)
 |.sl j base n c=>.slice (some ⟨(E j).1,base,none⟩) n (c.re E j)
 |.fn f cs=>.func (.func f) #[] (cs.map fun j=>Value.pointer (some ⟨(E j).1,0,none⟩)).toArray
 |.y j=>.func (.yield (E j).1) #[] #[]
 |.m j=>.map (some (E j).1)
 |.z j base dd off=>.slice (some ⟨(E j).1,if(E j).2-off=0 then base else base+dd,none⟩) 0 ((E j).2-off)
def SA.re(E:En):SA→Value
 |.c x=>x.re E
 |.a l=>.agg (l.map (SC.re E)).toArray
def SV.re(E:En):SV→Value
 |.c x=>x.re E
 |.a l=>.agg (l.map (SC.re E)).toArray
 |.t l=>.tuple (l.map (SA.re E)).toArray
 |.u=>undef
def SC.ok(n:Nat):SC→Prop
 |.p j _=>j<n
 |.sl j _ _ _=>j<n
 |.fn _ cs=>∀j∈cs,j<n
 |.y j=>j<n
 |.m j=>j<n
 |.z j _ _ _=>j<n
 |_=>True
def SA.ok(n:Nat):SA→Prop
 |.c x=>x.ok n
 |.a l=>∀x∈l,x.ok n
def SV.ok(n:Nat):SV→Prop
 |.c x=>x.ok n
 |.a l=>∀x∈l,x.ok n
 |.t l=>∀x∈l,x.ok n
 |.u=>True
noncomputable def tv(F:Tr SV)(t:Nat):SV:=(F.get t).getD .u
noncomputable def rF(E:En)(F:Tr SV):Nat→Value:=fun t=>(tv F t).re E
def Fok(n:Nat)(F:Tr SV):Prop:=∀t v,F.get t=some v→v.ok n
theorem Fok.set{n:Nat}{F:Tr SV}(h:Fok n F)(d:Nat){v:SV}(hv:v.ok n):Fok n (F.set d v):=by
 intro t x hx
 rw [Tr.get_set]at hx
 split at hx
 ·cases hx;exact hv
 ·exact h t x hx
def Mo.ok(md:Mo)(cap len size:Nat)(fz:Nat×Nat):Prop:=
 match md with
 |.ex=>size=len∧fz=(0,0)
 |.rw sz m=>len=m*sz∧m≤cap∧cap≤maxLen∧size=cap*sz∧fz=(0,0)
 |.bw=>len≤cap∧cap≤size∧size≤fz.1
 |.fb=>size=len∧size≤fz.1
def cres(b cap t:Nat)(md:Mo)(xs:List Value):Res:=
 ⟨some b,fun o=>∃cur t' fz,o=some (.cells cur t' fz)∧(md=.bw∨t'=t)∧xs.length≤cur.size∧cur.toList.take xs.length=xs∧md.ok cap xs.length cur.size fz⟩
def lpres(b:Nat)(busy:Bool)(j k:Nat)(ps:List Nat)(asg body:Code)(F:Nat→Value):Res:=
 ⟨some b,fun o=>∃rc:Loop,rc.assign=asg∧rc.body=body∧rc.params=ps.toArray∧rc.tmps=(fr ⟨k,[],some none⟩ F).tmps∧
  (match busy with
  |false=>o=some (.loop {rc with state:=lst j,pending:=jmp j})
  |true=>∃pd,o=some (.loop {rc with state:=.busy,pending:=pd}))⟩
def mpres(b:Nat)(l:List (Value×Value)):Res:=⟨some b,fun o=>∃es clock,o=some (.map es clock)∧es.toList.map (fun e=>(e.key,e.val))=l⟩
noncomputable def resOf(E:En)(i:Nat):HB→Res
 |.cl t md xs=>cres (E i).1 (E i).2 t md (xs.map (SC.re E))
 |.it l x pos=>sit (E i).1 (dec l x) pos
 |.lp busy j k ps asg body F=>lpres (E i).1 busy j k ps asg body (rF E F)
 |.df=>dfr (E i).1
 |.gn=>⟨none,fun _=>True⟩
 |.mp es=>mpres (E i).1 (es.map fun p=>(p.1.re E,p.2.re E))
def HB.ok(n:Nat):HB→Prop
 |.cl _ _ xs=>∀x∈xs,x.ok n
 |.lp _ _ _ _ _ _ F=>Fok n F
 |.mp es=>∀p∈es,p.1.ok n∧p.2.ok n
 |_=>True
noncomputable def hat(H:Hs)(i:Nat):HB:=(H.t.get i).getD .gn
noncomputable def resLs(E:En)(H:Hs):List Res:=(List.range H.nx).map fun i=>resOf E i (hat H i)
structure Inv (w0:World) (E:En) (H:Hs) (w:World):Prop where
 hp:Hp w0 [] (resLs E H) w
 lt:∀i b,H.t.get i=some b→i<H.nx
 ok:∀i b,H.t.get i=some b→b.ok H.nx
section
variable {w0 w : World} {E : En} {H : Hs}
theorem resLs_at{i:Nat}(hi:i<H.nx):(resLs E H)[i]? =some (resOf E i (hat H i)):=by simp [resLs,hi]
theorem Inv.at(h:Inv w0 E H w){i:Nat}{b:HB}(hb:H.t.get i=some b):(resLs E H)[i]? =some (resOf E i b):=by
 rw [resLs_at (h.lt i b hb)];simp [hat,hb]
theorem Inv.cells(h:Inv w0 E H w){i t:Nat}{md:Mo}{xs:List SC}(hb:H.t.get i=some (.cl t md xs)):
  ∃cur t' fz,w.heap[(E i).1]? =some (.cells cur t' fz)∧(md=.bw∨t'=t)∧xs.length≤cur.size∧cur.toList.take xs.length=xs.map (SC.re E)∧md.ok (E i).2 xs.length cur.size fz:=by
 have h1:=(h.hp.res _ (List.mem_of_getElem? (h.at hb))).1
 obtain⟨cur,t',fz,h2,h3,h4,h5,h6⟩:=h1
 simp only [zaK]at h4 h5 h6
 exact⟨cur,t',fz,h2,h3,h4,h5,h6⟩
end
end Go.Ce
namespace Go.Oe
open Go.Wk
open Go.Ce (Tr)
open List renaming append_assoc → zal, drop_succ_cons → zbx, length_append → zab, map_append → zaV, map_congr_left → zbn, map_cons → zaI
open Nat renaming lt_of_lt_of_le → zbr, one_pos → zbq
theorem abm{α:Type}:∀(l:List α) (k:Nat),ams l k=l[k]?
 |[],_=>rfl
 |x::l,0=>rfl
 |x::l,k+1=>by rw [List.getElem?_cons_succ];exact abm l k
theorem lset_eq{α:Type}:∀(l:List α) (k:Nat) (y:α),art l k y=l.set k y
 |[],_,_=>rfl
 |x::l,0,y=>rfl
 |x::l,k+1,y=>by simp [art,lset_eq l k y]
theorem ldrop_eq{α:Type}:∀(l:List α) (k:Nat),ldrop l k=l.drop k
 |[],k=>by simp [ldrop]
 |x::l,0=>rfl
 |x::l,k+1=>by rw [zbx];exact ldrop_eq l k
theorem ltake_some{α:Type}:∀{l:List α} {k:Nat} {q:List α},ltake l k=some q→q=l.take k∧k≤l.length
 |l,0,q,h=>by
  have:ltake l 0=some []:=by cases l<;>rfl
  rw [this]at h;cases h;simp
 |[],k+1,q,h=>by cases h
 |x::l,k+1,q,h=>by
  simp only [ltake]at h
  split at h
  ·rename_i q' h'
   cases h
   obtain⟨h1,h2⟩:=ltake_some h'
   exact⟨by simp [h1],by simpa using h2⟩
  ·cases h
theorem auh:∀{l:List SC} {k:Nat} {vs q:List SC},putC l k vs=some q→k+vs.length≤l.length∧q=l.take k++vs++l.drop (k+vs.length)
 |l,0,[],q,h=>by
  have:putC l 0 []=some l:=by cases l<;>rfl
  rw [this]at h;cases h;simp
 |[],0,v::vs,q,h=>by cases h
 |[],k+1,vs,q,h=>by cases vs<;>cases h
 |x::l,0,v::vs,q,h=>by
  simp only [putC]at h
  split at h
  ·rename_i q' h'
   cases h
   obtain⟨h1,h2⟩:=auh h'
   simp at h1 h2⊢
   exact⟨by omega,h2⟩
  ·cases h
 |x::l,k+1,vs,q,h=>by
  simp only [putC]at h
  split at h
  ·rename_i q' h'
   cases h
   obtain⟨h1,h2⟩:=auh h'
   refine⟨by simp;omega, ?_⟩
   rw [h2]
   simp [Nat.add_right_comm]
  ·cases h
theorem putC_get{l vs q:List SC}{k:Nat}(h:putC l k vs=some q)(j:Nat):q[j]? =if k≤j∧j<k+vs.length then vs[j-k]? else l[j]? :=by
 obtain⟨h1,rfl⟩:=auh h
 by_cases hj:j<k
 ·rw [if_neg (by omega),zal,List.getElem?_append_left (by simp;omega),List.getElem?_take,if_pos hj]
 ·by_cases hj2:j<k+vs.length
  ·rw [if_pos ⟨by omega,hj2⟩,List.getElem?_append_left (by simp;omega),List.getElem?_append_right (by simp;omega)]
   simp;congr 1;omega
  ·rw [if_neg (by omega),List.getElem?_append_right (by simp;omega),List.getElem?_drop]
   congr 1;simp;omega
theorem putC_len{l vs q:List SC}{k:Nat}(h:putC l k vs=some q):q.length=l.length:=by
 obtain⟨h1,rfl⟩:=auh h
 simp;omega
theorem knL_all:∀{l:List SC},knL l=true→∀x∈l,x.kn=true
 |[],_,x,hx=>by cases hx
 |y::l,h,x,hx=>by
  have h:=agp h
  rcases List.mem_cons.1 hx with rfl|hx
  ·exact h.1
  ·exact knL_all h.2 x hx
theorem nilV_one(j:Nat):(nilV j).oneCell'=true:=by
 unfold nilV;split<;>rfl
theorem SC.one(ρ:Nat→Ad)(c:SC):(c.v ρ).oneCell'=true:=by
 cases c<;>first|rfl|exact nilV_one _
theorem atg(H:List Ob)(id:Nat):lenH H id=(H[id]?.map Ob.len).getD 0:=by
 unfold lenH
 rw [abm]
 cases H[id]? <;>rfl
def SC.ids:SC→List Nat
 |.p' id _=>[id]
 |.q' id _ _ _=>[id]
 |.l' id=>[id]
 |.k' id _=>[id]
 |.f' _ ids=>ids
 |.z' id fl=>[id,fl]
 |_=>[]
theorem SC.v_ext{ρ ρ2:Nat→Ad}{c:SC}(h:∀id∈c.ids,ρ2 id=ρ id):c.v ρ2=c.v ρ:=by
 cases c<;>simp only [SC.v]
 case p' id off=>rw [h id (by simp [SC.ids])]
 case q' id j sz off=>rw [h id (by simp [SC.ids])]
 case l' id=>rw [h id (by simp [SC.ids])]
 case k' id n=>rw [h id (by simp [SC.ids])]
 case f' k ids=>
  have:(ids.map fun id=>bptr (ρ2 id).b 0)=ids.map fun id=>bptr (ρ id).b 0:=zbn fun id hid=>by rw [h id hid]
  rw [this]
 case z' id fl=>rw [h id (by simp [SC.ids]),h fl (by simp [SC.ids])]
def SC.ok(n:Nat)(c:SC):Prop:=∀id∈c.ids,id<n
def SA.ok(n:Nat):SA→Prop
 |.c' x=>x.ok n
 |.a' l=>∀x∈l,x.ok n
def SV.ok(n:Nat):SV→Prop
 |.c' x=>x.ok n
 |.a' l=>∀x∈l,x.ok n
 |.t' l=>∀x∈l,x.ok n
 |_=>True
def Up(n:Nat)(ρ ρ2:Nat→Ad):Prop:=∀id,id<n→ρ2 id=ρ id
theorem Up.refl{n:Nat}{ρ:Nat→Ad}:Up n ρ ρ:=fun _ _=>rfl
theorem Up.trans{n m:Nat}{ρ ρ2 ρ3:Nat→Ad}(h:Up n ρ ρ2)(h':Up m ρ2 ρ3)(hn:n≤m):Up n ρ ρ3:=
 fun id hi=>(h' id (by omega)).trans (h id hi)
theorem SC.up{n:Nat}{ρ ρ2:Nat→Ad}{c:SC}(hu:Up n ρ ρ2)(h:c.ok n):c.v ρ2=c.v ρ:=SC.v_ext fun id hi=>hu id (h id hi)
theorem scs_up{n:Nat}{ρ ρ2:Nat→Ad}{l:List SC}(hu:Up n ρ ρ2)(h:∀x∈l,x.ok n):l.map (SC.v ρ2)=l.map (SC.v ρ):=zbn fun x hx=>SC.up hu (h x hx)
theorem SA.up{n:Nat}{ρ ρ2:Nat→Ad}{c:SA}(hu:Up n ρ ρ2)(h:c.ok n):c.v ρ2=c.v ρ:=by
 cases c with
 |c' x=>exact SC.up hu h
 |a' l=>simp only [SA.v];rw [scs_up hu h]
theorem SV.up{n:Nat}{ρ ρ2:Nat→Ad}{c:SV}(hu:Up n ρ ρ2)(h:c.ok n):c.v ρ2=c.v ρ:=by
 cases c with
 |c' x=>simp only [SV.v];rw [SC.up hu h]
 |a' l=>simp only [SV.v];rw [scs_up hu h]
 |t' l=>
  simp only [SV.v]
  rw [zbn fun x hx=>SA.up hu (h x hx)]
 |_=>rfl
theorem SC.ok_mono{n m:Nat}{c:SC}(h:c.ok n)(hn:n≤m):c.ok m:=fun id hi=>zbr (h id hi) hn
theorem SV.ok_mono{n m:Nat}{c:SV}(h:c.ok n)(hn:n≤m):c.ok m:=by
 cases c with
 |c' x=>exact SC.ok_mono h hn
 |a' l=>exact fun x hx=>SC.ok_mono (h x hx) hn
 |t' l=>
  intro x hx
  have:=h x hx
  cases x with
  |c' y=>exact SC.ok_mono this hn
  |a' l=>exact fun y hy=>SC.ok_mono (this y hy) hn
 |_=>trivial
theorem SA.sv_v(ρ:Nat→Ad)(x:SA):x.sv.v ρ=some (x.v ρ):=by cases x<;>rfl
theorem SA.sv_ok{n:Nat}{x:SA}(h:x.ok n):x.sv.ok n:=by cases x<;>exact h
theorem SV.cells_v{ρ:Nat→Ad}{x:SV}{cs:List SC}(h:x.cells=some cs):∃v,x.v ρ=some v∧v.cells=(cs.map (SC.v ρ)).toArray:=by
 cases x with
 |c' x=>
  cases h
  refine⟨_,rfl, ?_⟩
  have:=SC.one ρ x
  rw [zaI,List.map_nil]
  generalize x.v ρ=v at this⊢
  cases v<;>first|rfl|simp [Value.oneCell']at this
 |a' l=>cases h;exact⟨_,rfl,rfl⟩
 |_=>cases h
theorem SV.cells_ok{n:Nat}{x:SV}{cs:List SC}(h:x.cells=some cs)(hx:x.ok n):∀c∈cs,c.ok n:=by
 cases x with
 |c' x=>cases h;intro c hc;simp at hc;subst hc;exact hx
 |a' l=>cases h;exact hx
 |_=>cases h
theorem Ty.enc_len:∀(t:Ty) (x:t.T),t.flat=true→(t.enc x).length=t.sz:=by
 intro t
 induction t with
 |w' t ih=>intro x h;exact ih x h
 |pr a b iha ihb=>
  intro x h
  have h:=agp h
  show(a.enc x.1++b.enc x.2).length=a.sz+b.sz
  rw [zab,iha _ h.1,ihb _ h.2]
 |i' k=>intro x h;rfl
 |c'=>intro x h;rfl
 |s'=>intro x h;rfl
 |b'=>intro x h;rfl
 |_=>intro x h;cases h
theorem Ty.enc_one:∀(t:Ty) (x:t.T),∀v∈t.enc x,v.oneCell'=true:=by
 intro t
 induction t with
 |w' t ih=>intro x;exact ih x
 |pr a b iha ihb=>
  intro x v hv
  rcases List.mem_append.1 (show v∈a.enc x.1++b.enc x.2 from hv)with h|h
  ·exact iha _ v h
  ·exact ihb _ v h
 |i' k=>intro x v hv;have:v=_:=List.mem_singleton.1 hv;subst this;rfl
 |c'=>intro x v hv;have:v=_:=List.mem_singleton.1 hv;subst this;rfl
 |s'=>intro x v hv;have:v=_:=List.mem_singleton.1 hv;subst this;rfl
 |b'=>intro x v hv;have:v=_:=List.mem_singleton.1 hv;subst this;rfl
 |_=>intro x v hv;cases hv
theorem Ty.encOk{t:Ty}(h:t.flat=true):Enc t.enc t.sz:=⟨fun x=>t.enc_len x h,fun x=>t.enc_one x⟩
theorem Ty.sz_pos:∀{t:Ty},t.flat=true→0<t.sz:=by
 intro t
 induction t with
 |w' t ih=>intro h;exact ih h
 |pr a b iha ihb=>intro h;have h:=agp h;have:=iha h.1;show 0<a.sz+b.sz;omega
 |_=>intro h;exact zbq
theorem Ty.lay_flat:∀(t:Ty) (s n:Nat) (x:t.T),t.flat=true→(t.lay s n x).2=[]∧∀ρ,(t.lay s n x).1.map (SC.v ρ)=t.enc x:=by
 intro t
 induction t with
 |w' t ih=>intro s n x h;exact ih s n x h
 |pr a b iha ihb=>
  intro s n x h
  have h:=agp h
  have h1:=iha s n x.1 h.1
  have h2:=ihb s (n+a.no) x.2 h.2
  refine⟨?_,fun ρ=> ?_⟩
  ·show(a.lay s n x.1).2++(b.lay s (n+a.no) x.2).2=[]
   rw [h1.1,h2.1];rfl
  ·show((a.lay s n x.1).1++(b.lay s (n+a.no) x.2).1).map (SC.v ρ)=a.enc x.1++b.enc x.2
   rw [zaV,h1.2,h2.2]
 |i' k=>intro s n x h;exact⟨rfl,fun _=>rfl⟩
 |c'=>intro s n x h;exact⟨rfl,fun _=>rfl⟩
 |s'=>intro s n x h;exact⟨rfl,fun _=>rfl⟩
 |b'=>intro s n x h;exact⟨rfl,fun _=>rfl⟩
 |_=>intro s n x h;cases h
theorem Ty.lay_plain:∀(t:Ty) (s n:Nat) (x:t.T),t.flat=true→∀c∈(t.lay s n x).1,c.ids=[]∧c.kn=true:=by
 intro t
 induction t with
 |w' t ih=>intro s n x h;exact ih s n x h
 |pr a b iha ihb=>
  intro s n x h c hc
  have h:=agp h
  rcases List.mem_append.1 (show c∈(a.lay s n x.1).1++(b.lay s (n+a.no) x.2).1 from hc)with hc|hc
  ·exact iha s n x.1 h.1 c hc
  ·exact ihb s _ x.2 h.2 c hc
 |i' k=>intro s n x h c hc;have:c=_:=List.mem_singleton.1 hc;subst this;exact⟨rfl,rfl⟩
 |c'=>intro s n x h c hc;have:c=_:=List.mem_singleton.1 hc;subst this;exact⟨rfl,rfl⟩
 |s'=>intro s n x h c hc;have:c=_:=List.mem_singleton.1 hc;subst this;exact⟨rfl,rfl⟩
 |b'=>intro s n x h c hc;have:c=_:=List.mem_singleton.1 hc;subst this;exact⟨rfl,rfl⟩
 |_=>intro s n x h c hc;cases h
theorem rI_v{k:IntKind}{x:SC}{y:Int}(h:x.rI k=some y)(ρ:Nat→Ad):x.v ρ=.int k y:=by
 cases x<;>simp only [SC.rI,reduceCtorEq]at h
 rename_i kk n
 cases hk:keq k kk with
 |true=>rw [hk]at h;cases h;rw [keq_eq hk];rfl
 |false=>rw [hk]at h;cases h
theorem rC_v{x:SC}{y:UInt8}(h:x.rC=some y)(ρ:Nat→Ad):x.v ρ=bt y:=by
 cases x<;>simp only [SC.rC,reduceCtorEq]at h;cases h;rfl
theorem rS_v{x:SC}{y:Str}(h:x.rS=some y)(ρ:Nat→Ad):x.v ρ=str y:=by
 cases x<;>simp only [SC.rS,reduceCtorEq]at h;cases h;rfl
theorem rB_v{x:SC}{y:Bool}(h:x.rB=some y)(ρ:Nat→Ad):x.v ρ=.bool y:=by
 cases x<;>simp only [SC.rB,reduceCtorEq]at h<;>cases h<;>rfl
theorem rd0_ok:∀(t:Ty) (l:List SC) (x:t.T) (r:List SC),t.rd0 l=some (x,r)→t.flat=true∧∀ρ,l.map (SC.v ρ)=t.enc x++r.map (SC.v ρ):=by
 intro t
 induction t with
 |w' t ih=>intro l x r h;exact ih l x r h
 |pr a b iha ihb=>
  intro l x r h
  simp only [Ty.rd0]at h
  split at h
  ·rename_i y1 l1 hp
   split at h
   ·rename_i y2 l2 hq
    cases h
    have h1:=iha l y1 l1 hp
    have h2:=ihb l1 y2 _ hq
    refine⟨by simp [Ty.flat,h1.1,h2.1],fun ρ=> ?_⟩
    rw [h1.2,h2.2,←zal];rfl
   ·cases h
  ·cases h
 |i' k=>
  intro l x r h
  cases l with
  |nil=>cases h
  |cons c l=>
   simp only [Ty.rd0]at h
   split at h
   ·rename_i y hy;cases h;exact⟨rfl,fun ρ=>by rw [zaI,rI_v hy];rfl⟩
   ·cases h
 |c'=>
  intro l x r h
  cases l with
  |nil=>cases h
  |cons c l=>
   simp only [Ty.rd0]at h
   split at h
   ·rename_i y hy;cases h;exact⟨rfl,fun ρ=>by rw [zaI,rC_v hy];rfl⟩
   ·cases h
 |s'=>
  intro l x r h
  cases l with
  |nil=>cases h
  |cons c l=>
   simp only [Ty.rd0]at h
   split at h
   ·rename_i y hy;cases h;exact⟨rfl,fun ρ=>by rw [zaI,rS_v hy];rfl⟩
   ·cases h
 |b'=>
  intro l x r h
  cases l with
  |nil=>cases h
  |cons c l=>
   simp only [Ty.rd0]at h
   split at h
   ·rename_i y hy;cases h;exact⟨rfl,fun ρ=>by rw [zaI,rB_v hy];rfl⟩
   ·cases h
 |_=>intro l x r h;cases h
theorem asn{t:Ty}:∀{m:Nat} {l:List SC} {xs:List t.T},rdAll t m l=some xs→xs.length=m∧(m≠0→t.flat=true)∧∀ρ,l.map (SC.v ρ)=xs.flatMap t.enc
 |0,l,xs,h=>by
  cases l with
  |nil=>cases h;exact⟨rfl,fun h=>absurd rfl h,fun _=>rfl⟩
  |cons c l=>cases h
 |m+1,l,xs,h=>by
  simp only [rdAll]at h
  split at h
  ·rename_i y l1 hp
   split at h
   ·rename_i q hq
    cases h
    obtain⟨h1,h2,h3⟩:=asn hq
    obtain⟨h4,h5⟩:=rd0_ok t l y l1 hp
    exact⟨by simp [h1],fun _=>h4,fun ρ=>by rw [h5,h3];rfl⟩
   ·cases h
  ·cases h
theorem elT_el(t:Ty)(l:List t.T)(j:Int):elT t l j= @el t.T t.inh l j:=by
 cases t<;>first|rfl|(show at_ _ _=_;rfl)
open List renaming append_assoc → zal, append_nil → zam, length_append → zab, length_cons → zad, map_append → zaV, map_cons → zaI, mem_cons_of_mem → zaf, mem_cons_self → zak
open Nat renaming add_assoc → zaQ, add_zero → zaP, beq → zav, eq_of_beq_eq_true → zag, le_of_ble_eq_true → zaG, le_refl → zao, lt_succ_self → zaZ
def Mat(ρ:Nat→Ad)(cs:List SC)(vs:List Value):Prop:=vs.length=cs.length∧∀(j:Nat) (c:SC),cs[j]? =some c→c.kn=true→vs[j]? =some (c.v ρ)
def ROk(w0:World)(S0:List Nat)(d:Ad)(t:Ty)(l:List t.T):Prop:=
 Rd w0 d.a (l.flatMap t.enc)∧(l.flatMap t.enc≠[]→∀p,d.a=some p→p.block∉S0)∧l.length≤d.cap
def RO(w0:World)(S0:List Nat)(ρ:Nat→Ad)(id:Nat):Ob→Res→Prop
 |.bl e cs,r=>∃vs,r=blk (ρ id).b vs e∧Mat ρ cs vs
 |.rw e _ t l,r=>r=rwt t.enc e t.sz (ρ id).o (ρ id).a (ρ id).cap l
 |.ro t l,r=>r.own=none∧ROk w0 S0 (ρ id) t l
 |.br n l,r=>r=brow (.slice (ρ id).a n (ρ id).cap) n l
 |.dd _,r=>True
def Mt(w0:World)(S0:List Nat)(ρ:Nat→Ad)(H:List Ob)(L:List Res):Prop:=
 L.length=H.length∧∀(id:Nat) (o:Ob),H[id]? =some o→o.len=(ρ id).ln∧∃r,L[id]? =some r∧RO w0 S0 ρ id o r
def Src.ad(ρ:Nat→Ad):Src→Ad
 |.o' id _=>ρ id
 |.n'=>⟨none,none,0,false,0⟩
 |.k' id m _=>⟨some (ρ id).b,some ⟨(ρ id).b,0,none⟩,m,false,m⟩
 |.z' t=>⟨none,none,0,t,0⟩
def SOk(any:Bool)(ρ:Nat→Ad)(H:List Ob)(ρ2:Nat→Ad):Src→Ob→Prop
 |s,.bl e cs2=>∃id cs,s=.o' id true∧H[id]? =some (.bl e cs)∧cs.map (SC.v ρ)=cs2.map (SC.v ρ2)∧(∀c∈cs,c.kn=true)∧∀c∈cs2,c.kn=true
 |s,.rw e b t l=>(∃id,s=.o' id true∧H[id]? =some (.rw e b t l))∨(s=.n'∧l=[])∨(∃id m cs,s=.k' id m true∧H[id]? =some (.bl e cs)∧rdAll t m cs=some l∧t.flat=true∧m≤1048576)
 |s,.br n l=>n=l.length∧∃id m,s=.o' id true∧H[id]? =some (.br m l)
 |s,.ro t l=>(∃id,s=.o' id false∧(bif any then anyOf t H[id]? else roOf t H[id]?)=some l)∨(s=.n'∧l=[])∨(any=true∧∃id m e cs,s=.k' id m false∧H[id]? =some (.bl e cs)∧rdAll t m cs=some l)
 |s,.dd n=>n=0∧((∃t,s=.z' t)∨∃fl,s=.o' fl false∧H[fl]? =some (.dd 0))
structure At (t:Ty) (ρ:Nat→Ad) (me:Nat) (ss:List Src) (ρ2:Nat→Ad) (self2 n:Nat):Prop where
 sf:t.tz=true→(ρ2 self2).b=(ρ me).b
 ad:∀(j:Nat) (s:Src),ss[j]? =some s→ρ2 (n+j)=s.ad ρ
theorem At.left{a b:Ty}{ρ:Nat→Ad}{self:Nat}{s1 s2:List Src}{ρ2:Nat→Ad}{self2 n:Nat}(h:At (.pr a b) ρ self (s1++s2) ρ2 self2 n):At a ρ self s1 ρ2 self2 n:=
 ⟨fun ht=>h.sf (by simp [Ty.tz,ht]),fun j s hj=>h.ad j s (by rw [List.getElem?_append_left (List.getElem?_eq_some_iff.1 hj).1];exact hj)⟩
theorem At.right{a b:Ty}{ρ:Nat→Ad}{self:Nat}{s1 s2:List Src}{ρ2:Nat→Ad}{self2 n:Nat}(h:At (.pr a b) ρ self (s1++s2) ρ2 self2 n):At b ρ self s2 ρ2 self2 (n+s1.length):=
 ⟨fun ht=>h.sf (by simp [Ty.tz,ht]),fun j s hj=>by
  rw [zaQ]
  exact h.ad (s1.length+j) s (by rw [List.getElem?_append_right (by omega),←hj];congr 1;omega)⟩
theorem Ty.lay_len:∀(t:Ty) (s n:Nat) (x:t.T),(t.lay s n x).1.length=t.cn:=by
 intro t
 induction t with
 |w' t ih=>intro s n x;exact ih s n x
 |pr a b iha ihb=>
  intro s n x
  show((a.lay s n x.1).1++(b.lay s (n+a.no) x.2).1).length=a.cn+b.cn
  rw [zab,iha,ihb]
 |_=>intro s n x;rfl
theorem Ty.lay_no:∀(t:Ty) (s n:Nat) (x:t.T),(t.lay s n x).2.length=t.no:=by
 intro t
 induction t with
 |w' t ih=>intro s n x;exact ih s n x
 |pr a b iha ihb=>
  intro s n x
  show((a.lay s n x.1).2++(b.lay s (n+a.no) x.2).2).length=a.no+b.no
  rw [zab,iha,ihb]
 |p' e t ih=>
  intro s n x
  show(_::(t.lay n (n+1) x).2).length=t.no+1
  rw [zad,ih]
 |f' k t ih=>intro s n x;exact ih s n x
 |_=>intro s n x;rfl
theorem mem_ptrL:∀{l:List SC} {id:Nat},id∈ptrL l→∃c∈l,id∈c.ids
 |[],id,h=>by cases h
 |x::l,id,h=>by
  cases x
  case p' i off=>
   rcases List.mem_cons.1 (show id∈i::ptrL l from h)with h|h
   ·subst h;exact⟨_,zak,by simp [SC.ids]⟩
   ·obtain⟨c,h1,h2⟩:=mem_ptrL h;exact⟨c,zaf _ h1,h2⟩
  all_goals
   obtain⟨c,h1,h2⟩:=mem_ptrL (show id∈ptrL l from h)
   exact⟨c,zaf _ h1,h2⟩
theorem Ty.lay_ok:∀(t:Ty) (s n:Nat) (x:t.T),∀c∈(t.lay s n x).1,c.kn=true∧∀id∈c.ids,id=s∨(n≤id∧id<n+(t.lay s n x).2.length):=by
 intro t
 induction t with
 |w' t ih=>intro s n x;exact ih s n x
 |pr a b iha ihb=>
  intro s n x c hc
  have hl:((Ty.pr a b).lay s n x).2.length=a.no+(b.lay s (n+a.no) x.2).2.length:=by
   show((a.lay s n x.1).2++(b.lay s (n+a.no) x.2).2).length=_
   rw [zab,Ty.lay_no]
  have hla:=a.lay_no s n x.1
  rcases List.mem_append.1 (show c∈(a.lay s n x.1).1++(b.lay s (n+a.no) x.2).1 from hc)with hc|hc
  ·obtain⟨h1,h2⟩:=iha s n x.1 c hc
   refine⟨h1,fun id hi=> ?_⟩
   rcases h2 id hi with h|h
   ·exact .inl h
   ·right;rw [hl];omega
  ·obtain⟨h1,h2⟩:=ihb s _ x.2 c hc
   refine⟨h1,fun id hi=> ?_⟩
   rcases h2 id hi with h|h
   ·exact .inl h
   ·right;rw [hl];omega
 |f' k t ih=>
  intro s n x c hc
  have:c=_:=List.mem_singleton.1 hc
  subst this
  refine⟨rfl,fun id hi=> ?_⟩
  obtain⟨c2,h1,h2⟩:=mem_ptrL (show id∈ptrL (t.lay s n x).1 from hi)
  exact(ih s n x c2 h1).2 id h2
 |p' e t ih=>
  intro s n x c hc
  have:c=_:=List.mem_singleton.1 hc
  subst this
  refine⟨rfl,fun id hi=> ?_⟩
  have:id=n:=List.mem_singleton.1 hi
  subst this
  exact .inr ⟨zao _,by show id<id+(_::_:List Ob).length;simp⟩
 |l' e b t ih=>
  intro s n x c hc
  have:c=_:=List.mem_singleton.1 hc
  subst this
  refine⟨rfl,fun id hi=> ?_⟩
  have:id=n:=List.mem_singleton.1 hi
  subst this
  exact .inr ⟨zao _,zaZ _⟩
 |r' t ih=>
  intro s n x c hc
  have:c=_:=List.mem_singleton.1 hc
  subst this
  refine⟨rfl,fun id hi=> ?_⟩
  have:id=n:=List.mem_singleton.1 hi
  subst this
  exact .inr ⟨zao _,zaZ _⟩
 |y'=>
  intro s n x c hc
  have:c=_:=List.mem_singleton.1 hc
  subst this
  refine⟨rfl,fun id hi=> ?_⟩
  have:id=n:=List.mem_singleton.1 hi
  subst this
  exact .inr ⟨zao _,zaZ _⟩
 |z'=>
  intro s n x c hc
  have:c=_:=List.mem_singleton.1 hc
  subst this
  refine⟨rfl,fun id hi=> ?_⟩
  have:id=s∨id=n:=by simpa [SC.ids] using hi
  rcases this with h|h
  ·exact .inl h
  ·subst h;exact .inr ⟨zao _,zaZ _⟩
 |u'=>intro s n x c hc;cases hc
 |sm a b _ _=>intro s n x c hc;cases hc
 |_=>
  intro s n x c hc
  have:c=_:=List.mem_singleton.1 hc
  subst this
  exact⟨rfl,fun id hi=>by cases hi⟩
theorem ptrL_app:∀(a b:List SC),ptrL (a++b)=ptrL a++ptrL b
 |[],b=>rfl
 |x::a,b=>by
  have:=ptrL_app a b
  cases x<;>simp [ptrL,this]
theorem ptrs_lay:∀(t:Ty) (s n:Nat) (x:t.T),t.ptrs=true→(t.lay s n x).1=(ptrL (t.lay s n x).1).map fun id=>.p' id 0:=by
 intro t
 induction t with
 |pr a b iha ihb=>
  intro s n x h
  have h:=agp h
  show(a.lay s n x.1).1++(b.lay s (n+a.no) x.2).1=(ptrL ((a.lay s n x.1).1++(b.lay s (n+a.no) x.2).1)).map _
  rw [ptrL_app,zaV,←iha s n x.1 h.1,←ihb _ _ _ h.2]
 |p' e t ih=>intro s n x h;rfl
 |u'=>intro s n x h;rfl
 |_=>intro s n x h;cases h
theorem lenH_get{H:List Ob}{id:Nat}{o:Ob}(h:H[id]? =some o):lenH H id=o.len:=by rw [atg,h];rfl
theorem anyOf_len{t:Ty}{o:Option Ob}{l:List t.T}(hb:∀m x,o=some (.br m x)→x.length=m)(h:anyOf t o=some l):∃ob,o=some ob∧ob.len=l.length:=by
 unfold anyOf at h
 split at h
 ·rename_i e b t2 l2
  split at h
  ·rename_i hq
   obtain rfl:=Ty.eqb_eq hq
   cases h;exact⟨_,rfl,rfl⟩
  ·cases h
 ·rename_i t2 l2
  split at h
  ·rename_i hq
   obtain rfl:=Ty.eqb_eq hq
   cases h;exact⟨_,rfl,rfl⟩
  ·cases h
 ·rename_i m l2
  have:=hb m l2 rfl
  unfold strOf at h
  split at h
  ·rename_i hq
   obtain rfl:=Ty.eqb_eq hq
   cases h;exact⟨_,rfl,this.symm⟩
  ·cases h
 ·cases h
theorem roOf_some{t:Ty}{o:Option Ob}{l:List t.T}(h:roOf t o=some l):o=some (.ro t l):=by
 unfold roOf at h
 split at h
 ·rename_i t2 l2
  split at h
  ·rename_i hq
   obtain rfl:=Ty.eqb_eq hq
   cases h;rfl
  ·cases h
 ·cases h
theorem rwE_rowOf{t:Ty}{o:Option Ob}{q:Nat×Nat}{l:List t.T}(h:rwE o=some q)(h2:rowOf t o=some l):o=some (.rw q.1 q.2 t l):=by
 unfold rwE at h
 split at h
 ·rename_i e b t2 l2
  cases h
  unfold rowOf at h2
  simp only at h2
  split at h2
  ·rename_i hq
   obtain rfl:=Ty.eqb_eq hq
   cases h2;rfl
  ·cases h2
 ·cases h
theorem hd1_some{α:Type}{f:SC→Option α}{l r:List SC}{x:α}{ss:List Src}(h:hd1 f l=some (x,r,ss)):∃c,l=c::r∧f c=some x∧ss=[]:=by
 cases l with
 |nil=>cases h
 |cons c l=>
  simp only [hd1]at h
  split at h
  ·rename_i y hy;cases h;exact⟨c,rfl,hy,rfl⟩
  ·cases h
structure RdOk (any:Bool) (H:List Ob) (t:Ty) (me:Nat) (l:List SC) (x:t.T) (r:List SC) (ss:List Src):Prop where
 no:ss.length=t.no
 kn:∃us,l=us++r∧∀c∈us,c.kn=true
 to:∀(ρ ρ2:Nat→Ad) (self2 n:Nat),At t ρ me ss ρ2 self2 n→
  l.map (SC.v ρ)=(t.lay self2 n x).1.map (SC.v ρ2)++r.map (SC.v ρ)∧∀(j:Nat) (s:Src) (o:Ob),ss[j]? =some s→(t.lay self2 n x).2[j]? =some o→SOk any ρ H ρ2 s o
theorem rd_one{any:Bool}{H:List Ob}{t:Ty}{self:Nat}{c:SC}{x:t.T}{r:List SC}{s:Src}{o:Ob}{g:Nat→SC}(hk:c.kn=true)(hno:t.no=1)(hl:∀s2 n,t.lay s2 n x=([g n],[o]))
  (hv:∀(ρ ρ2:Nat→Ad) (n:Nat),ρ2 n=s.ad ρ→c.v ρ=(g n).v ρ2) (hs:∀(ρ ρ2:Nat→Ad),SOk any ρ H ρ2 s o):RdOk any H t self (c::r) x r [s]:=by
 refine⟨by rw [hno];rfl,⟨[c],rfl,fun c2 h=>by rw [List.mem_singleton.1 h];exact hk⟩,fun ρ ρ2 self2 n h=> ?_⟩
 rw [hl]
 refine⟨?_,fun j s2 o2 h1 h2=> ?_⟩
 ·have:=hv ρ ρ2 n (h.ad 0 s rfl)
  simp [this]
 ·cases j with
  |zero=>cases h1;cases h2;exact hs ρ ρ2
  |succ j=>simp at h1
def Brk(H:List Ob):Prop:=∀(id m:Nat) (x:Str),H[id]? =some (.br m x)→x.length=m
theorem aas{α:Type}{c:Bool}{a:Option α}{r:α}(h:(bif c then a else none)=some r):c=true∧a=some r:=by
 cases c with
 |true=>exact⟨rfl,h⟩
 |false=>cases h
theorem rd_ok(any:Bool)(H:List Ob)(hbr:Brk H):∀(t:Ty) (self:Nat) (l:List SC) (x:t.T) (r:List SC) (ss:List Src),t.rd any H self l=some (x,r,ss)→RdOk any H t self l x r ss:=by
 intro t
 induction t with
 |i' k=>
  intro self l x r ss h
  obtain⟨c,rfl,hc,rfl⟩:=hd1_some h
  exact⟨rfl,⟨[c],rfl,fun c2 h=>by rw [List.mem_singleton.1 h];cases c<;>first|rfl|cases hc⟩,fun ρ ρ2 self2 n h=>⟨by rw [zaI,rI_v hc];rfl,fun j s o h1=>by simp at h1⟩⟩
 |c'=>
  intro self l x r ss h
  obtain⟨c,rfl,hc,rfl⟩:=hd1_some h
  exact⟨rfl,⟨[c],rfl,fun c2 h=>by rw [List.mem_singleton.1 h];cases c<;>first|rfl|cases hc⟩,fun ρ ρ2 self2 n h=>⟨by rw [zaI,rC_v hc];rfl,fun j s o h1=>by simp at h1⟩⟩
 |s'=>
  intro self l x r ss h
  obtain⟨c,rfl,hc,rfl⟩:=hd1_some h
  exact⟨rfl,⟨[c],rfl,fun c2 h=>by rw [List.mem_singleton.1 h];cases c<;>first|rfl|cases hc⟩,fun ρ ρ2 self2 n h=>⟨by rw [zaI,rS_v hc];rfl,fun j s o h1=>by simp at h1⟩⟩
 |b'=>
  intro self l x r ss h
  obtain⟨c,rfl,hc,rfl⟩:=hd1_some h
  exact⟨rfl,⟨[c],rfl,fun c2 h=>by rw [List.mem_singleton.1 h];cases c<;>first|rfl|cases hc⟩,fun ρ ρ2 self2 n h=>⟨by rw [zaI,rB_v hc];rfl,fun j s o h1=>by simp at h1⟩⟩
 |u'=>
  intro self l x r ss h
  cases h
  exact⟨rfl,⟨[],rfl,fun c h=>by cases h⟩,fun ρ ρ2 self2 n h=>⟨rfl,fun j s o h1=>by simp at h1⟩⟩
 |w' t ih=>intro self l x r ss h;exact⟨(ih self l x r ss h).no,(ih self l x r ss h).kn,fun ρ ρ2 self2 n hat=>(ih self l x r ss h).to ρ ρ2 self2 n ⟨hat.sf,hat.ad⟩⟩
 |pr a b iha ihb=>
  intro self l x r ss h
  simp only [Ty.rd]at h
  split at h
  ·rename_i y1 l1 s1 hp
   split at h
   ·rename_i y2 l2 s2 hq
    cases h
    have ha:=iha self l y1 l1 s1 hp
    have hb:=ihb self l1 y2 _ s2 hq
    obtain⟨us,hu1,hu2⟩:=ha.kn
    obtain⟨ws,hw1,hw2⟩:=hb.kn
    refine⟨by rw [zab,ha.no,hb.no];rfl,⟨us++ws,by rw [hu1,hw1,zal],fun c hc=>(List.mem_append.1 hc).elim (hu2 c) (hw2 c)⟩,fun ρ ρ2 self2 n hat=> ?_⟩
    have hl:s1.length=(a.lay self2 n y1).2.length:=by rw [ha.no,Ty.lay_no]
    obtain⟨h1,h2⟩:=ha.to ρ ρ2 self2 n hat.left
    obtain⟨h3,h4⟩:=hb.to ρ ρ2 self2 (n+a.no) (by have:=hat.right;rwa [ha.no]at this)
    refine⟨?_,fun j s o hs ho=> ?_⟩
    ·show _=((a.lay self2 n y1).1++(b.lay self2 (n+a.no) y2).1).map _++_
     rw [h1,h3,zaV,zal]
    ·have ho':((a.lay self2 n y1).2++(b.lay self2 (n+a.no) y2).2)[j]? =some o:=ho
     by_cases hj:j<s1.length
     ·rw [List.getElem?_append_left hj]at hs
      rw [List.getElem?_append_left (by omega)]at ho'
      exact h2 j s o hs ho'
     ·rw [List.getElem?_append_right (by omega)]at hs
      rw [List.getElem?_append_right (by omega),←hl]at ho'
      exact h4 _ s o hs ho'
   ·cases h
  ·cases h
 |sm a b _ _=>intro self l x r ss h;cases h
 |l' e b t ih=>
  intro self l x r ss h
  simp only [Ty.rd]at h
  split at h
  ·cases h
   exact rd_one (g:=fun n=>.l' n) rfl rfl (fun _ _=>rfl) (fun ρ ρ2 n h1=>by simp [SC.v,h1,Src.ad]) (fun _ _=>.inr (.inl ⟨rfl,rfl⟩))
  ·rename_i id l2
   split at h
   ·rename_i q hq
    cases he:zav q.1 e with
    |false=>rw [he]at h;cases h
    |true=>
     cases hb:zav q.2 b with
     |false=>rw [he,hb]at h;cases h
     |true=>
      rw [he,hb]at h
      simp only [cond_true]at h
      split at h
      ·rename_i y hy
       cases h
       have hg:=rwE_rowOf hq hy
       rw [abm,zag he,zag hb]at hg
       exact rd_one (g:=fun n=>.l' n) rfl rfl (fun _ _=>rfl) (fun ρ ρ2 n h1=>by simp [SC.v,h1,Src.ad]) (fun _ _=>.inl ⟨id,rfl,hg⟩)
      ·cases h
   ·cases h
  ·rename_i id m l2
   split at h
   ·rename_i e2 cs hg
    rw [abm]at hg
    cases he:zav e2 e with
    |false=>rw [he]at h;cases h
    |true=>
     rw [he]at h
     simp only [cond_true]at h
     have h:=aas h
     have hm:=aas h.2
     have h2:=hm.2
     split at h2
     ·rename_i y hy
      cases h2
      rw [zag he]at hg
      refine rd_one (g:=fun n=>.l' n) rfl rfl (fun _ _=>rfl) (fun ρ ρ2 n h1=> ?_) (fun _ _=>.inr (.inr ⟨id,m,cs,rfl,hg,hy,h.1,zaG hm.1⟩))
      have:=(asn hy).1
      simp [SC.v,h1,Src.ad]
     ·cases h2
   ·cases h
  ·cases h
 |y'=>
  intro self l x r ss h
  simp only [Ty.rd]at h
  split at h
  ·rename_i id l2
   split at h
   ·rename_i m y hg
    cases h
    rw [abm]at hg
    have hm:=hbr id m x hg
    exact rd_one (g:=fun n=>.l' n) rfl rfl (fun _ _=>rfl) (fun ρ ρ2 n h1=>by simp [SC.v,h1,Src.ad]) (fun _ _=>⟨rfl,id,m,rfl,hg⟩)
   ·cases h
  ·cases h
 |r' t ih=>
  intro self l x r ss h
  simp only [Ty.rd]at h
  split at h
  ·cases h
   exact rd_one (g:=fun n=>.l' n) rfl rfl (fun _ _=>rfl) (fun ρ ρ2 n h1=>by simp [SC.v,h1,Src.ad]) (fun _ _=>.inr (.inl ⟨rfl,rfl⟩))
  ·rename_i id l2
   split at h
   ·rename_i y hy
    cases h
    rw [abm]at hy
    have hlen:lenH H id=x.length:=by
     cases any with
     |true=>obtain⟨ob,h1,h2⟩:=anyOf_len (fun m x hx=>hbr id m x hx) (show anyOf t H[id]? =some x from hy);rw [lenH_get h1,h2]
     |false=>have h1:=roOf_some (show roOf t H[id]? =some x from hy);rw [lenH_get h1];rfl
    exact rd_one (g:=fun n=>.l' n) rfl rfl (fun _ _=>rfl) (fun ρ ρ2 n h1=>by simp [SC.v,h1,Src.ad]) (fun _ _=>.inl ⟨id,rfl,hy⟩)
   ·cases h
  ·rename_i id m l2
   cases any with
   |false=>cases h
   |true=>
    simp only [cond_true]at h
    split at h
    ·rename_i e2 cs hg
     rw [abm]at hg
     split at h
     ·rename_i y hy
      cases h
      refine rd_one (g:=fun n=>.l' n) rfl rfl (fun _ _=>rfl) (fun ρ ρ2 n h1=> ?_) (fun _ _=>.inr (.inr ⟨rfl,id,m,e2,cs,rfl,hg,hy⟩))
      have:=(asn hy).1
      simp [SC.v,h1,Src.ad]
     ·cases h
    ·cases h
  ·cases h
 |p' e t ih=>
  intro self l x r ss h
  simp only [Ty.rd]at h
  split at h
  ·rename_i id off l2
   split at h
   ·rename_i e2 cs hg
    rw [abm]at hg
    cases ho:zav off 0 with
    |false=>rw [ho]at h;cases h
    |true=>
     cases he:zav e2 e with
     |false=>rw [ho,he]at h;cases h
     |true=>
      rw [ho,he]at h
      simp only [cond_true]at h
      split at h
      ·rename_i y ss2 hy
       cases h
       rw [zag he]at hg
       have hr:=ih id cs x [] ss2 hy
       obtain⟨us,hu1,hu2⟩:=hr.kn
       rw [zam]at hu1
       subst hu1
       refine⟨by rw [zad,hr.no];rfl,⟨[_],rfl,fun c hc=>by rw [List.mem_singleton.1 hc];rfl⟩,fun ρ ρ2 self2 n hat=> ?_⟩
       have had:ρ2 n=ρ id:=hat.ad 0 _ rfl
       have hat2:At t ρ id ss2 ρ2 n (n+1):=⟨fun _=>by rw [had],fun j s hj=>by rw [Nat.add_right_comm];exact hat.ad (j+1) s (by simpa using hj)⟩
       obtain⟨h1,h2⟩:=hr.to ρ ρ2 n (n+1) hat2
       refine⟨?_,fun j s o hs hoo=> ?_⟩
       ·show(SC.p' id off).v ρ::_=[(SC.p' n 0).v ρ2]++_
        simp [SC.v,had,zag ho]
       ·cases j with
        |zero=>
         cases hs
         have:Ob.bl e (t.lay n (n+1) x).1=o:=Option.some.inj hoo
         subst this
         refine⟨id,cs,rfl,hg,by simpa using h1,hu2,fun c hc=>(Ty.lay_ok t n (n+1) x c hc).1⟩
        |succ j=>exact h2 j s o (by simpa using hs) (by simpa [Ty.lay] using hoo)
      ·cases h
   ·cases h
  ·cases h
 |z'=>
  intro self l x r ss h
  simp only [Ty.rd]at h
  split at h
  ·rename_i j l2
   cases hj:zav j 0 with
   |false=>rw [hj]at h;cases h
   |true=>
    rw [hj]at h;cases h
    refine⟨rfl,⟨[_],rfl,fun c hc=>by rw [List.mem_singleton.1 hc];rfl⟩,fun ρ ρ2 self2 n hat=>⟨?_,fun i s o hs ho=> ?_⟩⟩
    ·have:=hat.ad 0 _ rfl
     simp only [zaP]at this
     simp [Ty.lay,SC.v,this,Src.ad,zag hj,nilV]
    ·cases i with
     |zero=>cases hs;cases(Option.some.inj ho);exact⟨rfl,.inl ⟨_,rfl⟩⟩
     |succ i=>simp at hs
  ·rename_i id off l2
   cases ho:zav off 0 with
   |false=>rw [ho]at h;cases h
   |true=>
    cases hi:zav id self with
    |false=>rw [ho,hi]at h;cases h
    |true=>
     rw [ho,hi]at h;cases h
     refine⟨rfl,⟨[_],rfl,fun c hc=>by rw [List.mem_singleton.1 hc];rfl⟩,fun ρ ρ2 self2 n hat=>⟨?_,fun i s o hs ho=> ?_⟩⟩
     ·have:=hat.ad 0 _ rfl
      simp only [zaP]at this
      have hsf:=hat.sf rfl
      rw [←zag hi]at hsf
      simp [Ty.lay,SC.v,this,Src.ad,zag ho,bptr,hsf]
     ·cases i with
      |zero=>cases hs;cases(Option.some.inj ho);exact⟨rfl,.inl ⟨_,rfl⟩⟩
      |succ i=>simp at hs
  ·rename_i id fl l2
   cases hi:zav id self with
   |false=>rw [hi]at h;cases h
   |true=>
    rw [hi]at h
    simp only [cond_true]at h
    split at h
    ·rename_i hfl
     cases h
     rw [abm]at hfl
     refine⟨rfl,⟨[_],rfl,fun c hc=>by rw [List.mem_singleton.1 hc];rfl⟩,fun ρ ρ2 self2 n hat=>⟨?_,fun i s o hs ho=> ?_⟩⟩
     ·have:=hat.ad 0 _ rfl
      simp only [zaP]at this
      have hsf:=hat.sf rfl
      rw [←zag hi]at hsf
      simp [Ty.lay,SC.v,this,Src.ad,hsf]
     ·cases i with
      |zero=>cases hs;cases(Option.some.inj ho);exact⟨rfl,.inr ⟨fl,rfl,hfl⟩⟩
      |succ i=>simp at hs
    ·cases h
  ·cases h
 |o' j=>
  intro self l x r ss h
  simp only [Ty.rd]at h
  split at h
  ·rename_i j2 l2
   cases hj:zav j j2 with
   |false=>rw [hj]at h;cases h
   |true=>
    rw [hj]at h;cases h
    exact⟨rfl,⟨[_],rfl,fun c hc=>by rw [List.mem_singleton.1 hc];rfl⟩,fun ρ ρ2 self2 n hat=>⟨by simp [Ty.lay,SC.v,zag hj],fun i s o hs ho=>by simp at hs⟩⟩
  ·cases h
 |f' k t ih=>
  intro self l x r ss h
  simp only [Ty.rd]at h
  split at h
  ·rename_i k2 ids l2
   cases hk:zav k k2 with
   |false=>rw [hk]at h;cases h
   |true=>
    cases hp:t.ptrs with
    |false=>rw [hk,hp]at h;cases h
    |true=>
     rw [hk,hp]at h
     simp only [cond_true]at h
     split at h
     ·rename_i y ss2 hy
      cases h
      have hr:=ih self _ x [] ss hy
      refine⟨hr.no,⟨[_],rfl,fun c hc=>by rw [List.mem_singleton.1 hc];rfl⟩,fun ρ ρ2 self2 n hat=> ?_⟩
      obtain⟨h1,h2⟩:=hr.to ρ ρ2 self2 n ⟨hat.sf,hat.ad⟩
      refine⟨?_,h2⟩
      have h3:=ptrs_lay t self2 n x hp
      rw [h3,List.map_nil,zam,List.map_map,List.map_map]at h1
      have h4:(ids.map fun id=>bptr (ρ id).b 0)=(ptrL (t.lay self2 n x).1).map fun id=>bptr (ρ2 id).b 0:=h1
      simp [Ty.lay,SC.v,zag hk,h4]
     ·cases h
  ·cases h
open Nat renaming blt → zbh, le_refl → zao, le_trans → zaF
theorem Hp.pick{w0 w:World}{S:List Nat}{L L2:List Res}(M:List (Option Nat))(h:Hp w0 S L w)
  (hd:∀(j:Nat) (r:Res),L2[j]? =some r→r.holds w∧∀b,r.own=some b→∃i ri,M[j]? =some (some i)∧L[i]? =some ri∧ri.own=some b)
  (hi:∀j k i:Nat,M[j]? =some (some i)→M[k]? =some (some i)→j=k):Hp w0 S L2 w:=by
 refine⟨h.os,h.tape,h.output,h.size,h.below,fun r hr=> ?_, ?_⟩
 ·obtain⟨j,hj⟩:=List.mem_iff_getElem?.1 hr
  obtain⟨h1,h2⟩:=hd j r hj
  refine⟨h1,fun b hb=> ?_⟩
  obtain⟨i,ri,_,h4,h5⟩:=h2 b hb
  exact(h.res ri (List.mem_of_getElem? h4)).2 b h5
 ·refine List.pairwise_iff_getElem.2 fun j k hj hk hjk b hb hb2=> ?_
  obtain⟨i,ri,h3,h4,h5⟩:=(hd j _ (List.getElem?_eq_getElem hj)).2 b hb
  obtain⟨i2,ri2,h3',h4',h5'⟩:=(hd k _ (List.getElem?_eq_getElem hk)).2 b hb2
  obtain⟨hl1,e1⟩:=List.getElem?_eq_some_iff.1 h4
  obtain⟨hl2,e2⟩:=List.getElem?_eq_some_iff.1 h4'
  have hs:=List.pairwise_iff_getElem.1 h.sep
  have:i=i2:=by
   rcases Nat.lt_trichotomy i i2 with hlt|he|hgt
   ·exact absurd (by rw [e2];exact h5') (hs i i2 hl1 hl2 hlt b (by rw [e1];exact h5))
   ·exact he
   ·exact absurd (by rw [e1];exact h5) (hs i2 i hl2 hl1 hgt b (by rw [e2];exact h5'))
  subst this
  have:=hi j k i h3 h3'
  omega
theorem at_set(S:St)(d t:Nat)(v:SV):(S.set d v).at t=if t=d then v else S.at t:=by
 unfold St.at St.set
 simp only
 by_cases h:t=d
 ·subst h;rw [Go.Ce.Tr.get_set];simp
 ·rw [Go.Ce.Tr.get_set,if_neg h,if_neg h]
theorem at_setO(S:St)(d:Option Nat)(v:SV)(t:Nat):(S.setO d v).at t=if d=some t then v else S.at t:=by
 cases d with
 |none=>simp [St.setO]
 |some d=>
  simp only [St.setO,at_set,Option.some.injEq]
  by_cases h:t=d
  ·subst h;simp
  ·rw [if_neg h,if_neg (fun e=>h e.symm)]
structure Rel (C:Cx) (w0:World) (S0:List Nat) (ρ:Nat→Ad) (S:St) (F:Nat→Value) (w:World):Prop where
 gl:∀g id,C.G g=some id→id<S.H.length∧(ρ id).a=some ⟨g,0,none⟩
 fr:∀(t:Nat) (v:Value),(S.at t).v ρ=some v→F t=v
 fo:∀t,(S.at t).ok S.H.length
 ho:∀(id e:Nat) (cs:List SC),S.H[id]? =some (.bl e cs)→∀c∈cs,c.ok S.H.length
 mem:∃L,Hp w0 S0 L w∧Mt w0 S0 ρ S.H L
def asl(al:List Rg)(id:Nat)(ρ ρ2:Nat→Ad)(o2:Option Ob):Ob→Prop
 |.bl e cs=>(∀j,j≤cs.length→cov id j al=true)∨∃cs2,o2=some (.bl e cs2)∧cs2.length=cs.length∧∀(j:Nat) (c:SC),cs[j]? =some c→cov id j al=true∨∃c2,cs2[j]? =some c2∧(c.kn=true→c2.kn=true∧c2.v ρ2=c.v ρ)
 |.rw e b t l=>cov id 0 al=true∨o2=some (.rw e b t l)
 |.br m l=>cov id 0 al=true∨o2=some (.br m l)
 |.ro t l=>o2=some (.ro t l)
 |.dd n=>o2=some (.dd n)
structure Le (nb:Nat) (al:List Rg) (ρ:Nat→Ad) (H:List Ob) (ρ2:Nat→Ad) (H2:List Ob):Prop where
 len:H.length≤H2.length
 up:Up H.length ρ ρ2
 kp:∀(id:Nat) (o:Ob),id<nb→H[id]? =some o→asl al id ρ ρ2 H2[id]? o
theorem asl.refl{al:List Rg}{id:Nat}{ρ:Nat→Ad}{o:Ob}:asl al id ρ ρ (some o) o:=by
 cases o with
 |bl e cs=>exact .inr ⟨cs,rfl,rfl,fun j c h=>.inr ⟨c,h,fun hk=>⟨hk,rfl⟩⟩⟩
 |rw e b t l=>exact .inr rfl
 |br m l=>exact .inr rfl
 |ro t l=>exact rfl
 |dd n=>exact rfl
theorem Le.refl{nb:Nat}{al:List Rg}{ρ:Nat→Ad}{H:List Ob}:Le nb al ρ H ρ H:=⟨zao _,Up.refl,fun id o _ h=>by rw [h];exact asl.refl⟩
theorem asl.mono{al al2:List Rg}{id:Nat}{ρ ρ2:Nat→Ad}{o2:Option Ob}{o:Ob}(h:asl al id ρ ρ2 o2 o)(hm:∀j,cov id j al=true→cov id j al2=true):asl al2 id ρ ρ2 o2 o:=by
 cases o with
 |bl e cs=>
  rcases h with h|⟨cs2,h1,h2,h3⟩
  ·exact .inl fun j hj=>hm j (h j hj)
  ·exact .inr ⟨cs2,h1,h2,fun j c hc=>(h3 j c hc).imp (hm j) fun h=>h⟩
 |rw e b t l=>exact h.imp (hm 0) fun h=>h
 |br m l=>exact h.imp (hm 0) fun h=>h
 |ro t l=>exact h
 |dd n=>exact h
theorem Le.mono{nb nb2:Nat}{al al2:List Rg}{ρ ρ2:Nat→Ad}{H H2:List Ob}(h:Le nb al ρ H ρ2 H2)(hn:nb2≤nb)(hm:∀id j,id<nb2→cov id j al=true→cov id j al2=true):Le nb2 al2 ρ H ρ2 H2:=
 ⟨h.len,h.up,fun id o hi ho=>(h.kp id o (by omega) ho).mono fun j=>hm id j hi⟩
theorem Le.trans{nb:Nat}{al:List Rg}{ρ ρ2 ρ3:Nat→Ad}{H H2 H3:List Ob}(h:Le nb al ρ H ρ2 H2)(h':Le nb al ρ2 H2 ρ3 H3):Le nb al ρ H ρ3 H3:=by
 refine⟨zaF h.len h'.len,h.up.trans h'.up h.len,fun id o hi ho=> ?_⟩
 have h1:=h.kp id o hi ho
 cases o with
 |bl e cs=>
  rcases h1 with h1|⟨cs2,h2,h3,h4⟩
  ·exact .inl h1
  ·rcases h'.kp id _ hi h2 with h5|⟨cs3,h6,h7,h8⟩
   ·exact .inl fun j hj=>h5 j (by omega)
   ·refine .inr ⟨cs3,h6,by omega,fun j c hc=> ?_⟩
    rcases h4 j c hc with h9|⟨c2,h9,h10⟩
    ·exact .inl h9
    ·rcases h8 j c2 h9 with h11|⟨c3,h11,h12⟩
     ·exact .inl h11
     ·exact .inr ⟨c3,h11,fun hk=>⟨(h12 (h10 hk).1).1,((h12 (h10 hk).1).2).trans (h10 hk).2⟩⟩
 |rw e b t l=>exact h1.elim .inl fun h2=>h'.kp id _ hi h2
 |br m l=>exact h1.elim .inl fun h2=>h'.kp id _ hi h2
 |ro t l=>exact h'.kp id _ hi h1
 |dd n=>exact h'.kp id _ hi h1
theorem covs_all{id lo:Nat}{al:List Rg}:∀{n:Nat},covs id lo al n=true→∀j,lo≤j→j<lo+n→cov id j al=true
 |0,_,j,h1,h2=>by omega
 |n+1,h,j,h1,h2=>by
  simp only [covs]at h
  have h:=agp h
  by_cases hj:j=lo+n
  ·subst hj;exact h.1
  ·exact covs_all h.2 j h1 (by omega)
theorem ok_cov{S:St}{q:Rg}(h:S.ok q=true)(hi:q.1<S.nb)(j:Nat)(h1:q.2.1≤j)(h2:j<q.2.2):cov q.1 j S.al=true:=by
 unfold St.ok at h
 have hb:zbh q.1 S.nb=true:=by simpa [Nat.blt_eq] using hi
 rw [hb]at h
 exact covs_all h j h1 (by omega)
theorem oks_mem{S:St}:∀{l:List Rg},S.oks l=true→∀q∈l,S.ok q=true
 |[],_,q,h=>by cases h
 |x::l,h,q,hq=>by
  simp only [St.oks]at h
  have h:=agp h
  rcases List.mem_cons.1 hq with rfl|hq
  ·exact h.1
  ·exact oks_mem h.2 q hq
open List renaming map_cons → zaI
open Nat renaming blt → zbh, zero_add → zbc
open UInt8 renaming ofNat → zbm, toNat_lt → zby
theorem cvC_ok{v:Value}{c:SC}(h:cvC v=some c):c.ids=[]∧c.kn=true∧∀ρ,c.v ρ=v:=by
 unfold cvC at h
 split at h
 ·cases h;exact⟨rfl,rfl,fun _=>rfl⟩
 ·rename_i k n
  cases hk:keq k .u8 with
  |true=>
   rw [hk]at h
   simp only [cond_true]at h
   split at h
   ·rename_i hn
    cases h
    refine⟨rfl,rfl,fun _=> ?_⟩
    rw [keq_eq hk]
    have:((zbm n.toNat).toNat:Int)=n:=by
     rw [UInt8.toNat_ofNat']
     omega
    show bt _=_
    unfold bt
    rw [this]
   ·cases h
  |false=>rw [hk]at h;cases h;exact⟨rfl,rfl,fun _=>rfl⟩
 ·cases h
  refine⟨rfl,rfl,fun _=> ?_⟩
  show str _=_
  unfold str
  congr 1
 ·cases h;exact⟨rfl,rfl,fun _=>rfl⟩
 ·cases h;exact⟨rfl,rfl,fun _=>rfl⟩
 ·cases h;exact⟨rfl,rfl,fun _=>rfl⟩
 ·cases h;exact⟨rfl,rfl,fun _=>rfl⟩
 ·cases h
theorem cvL_ok:∀{l:List Value} {cs:List SC},cvL l=some cs→(∀c∈cs,c.ids=[]∧c.kn=true)∧∀ρ,cs.map (SC.v ρ)=l
 |[],cs,h=>by cases h;exact⟨fun c h=>absurd h (by simp),fun _=>rfl⟩
 |v::l,cs,h=>by
  simp only [cvL]at h
  split at h
  ·rename_i x hx
   split at h
   ·rename_i q hq
    cases h
    obtain⟨h1,h2,h3⟩:=cvC_ok hx
    obtain⟨h4,h5⟩:=cvL_ok hq
    exact⟨fun c hc=>(List.mem_cons.1 hc).elim (fun e=>e▸⟨h1,h2⟩) (h4 c),fun ρ=>by rw [zaI,h3,h5]⟩
   ·cases h
  ·cases h
theorem cv_ok{v u:Value}(n:Nat):(cv v).ok n∧∀ρ,(cv v).v ρ=some u→u=v:=by
 unfold cv
 split
 ·rename_i cs
  split
  ·rename_i l hl
   obtain⟨h1,h2⟩:=cvL_ok hl
   refine⟨fun c hc=>fun id hi=>(by rw [(h1 c hc).1]at hi;cases hi),fun ρ h=> ?_⟩
   simp only [SV.v,h2]at h
   cases h;rfl
  ·exact⟨trivial,fun ρ h=>by cases h⟩
 ·split
  ·rename_i x hx
   obtain⟨h1,h2,h3⟩:=cvC_ok hx
   refine⟨fun id hi=>(by rw [h1]at hi;cases hi),fun ρ h=> ?_⟩
   simp only [SV.v,h3]at h
   cases h;rfl
  ·exact⟨trivial,fun ρ h=>by cases h⟩
section
variable {C : Cx} {md : Md} {w0 w : World} {S0 : List Nat} {ρ : Nat → Ad} {S : St} {F : Nat → Value}
theorem awz(h:Rel C w0 S0 ρ S F w)(hn:C.nn=md.n)(x:Operand):(S.ev C x).ok S.H.length∧∀u,(S.ev C x).v ρ=some u→evn md F x=u:=by
 cases x with
 |tmp t=>
  simp only [St.ev,evn,hn]
  cases hb:zbh t md.n with
  |true=>exact⟨h.fo t,fun u hu=>h.fr t u hu⟩
  |false=>exact⟨trivial,fun u hu=>by cases hu⟩
 |const v=>exact⟨(cv_ok (u:=v) _).1,fun u hu=>((cv_ok 0).2 _ hu).symm⟩
 |global g=>
  simp only [St.ev]
  cases hg:C.G g with
  |none=>exact⟨trivial,fun u hu=>by cases hu⟩
  |some id=>
   obtain⟨h1,h2⟩:=h.gl g id hg
   refine⟨fun i hi=>(by have:i=id:=List.mem_singleton.1 hi;omega),fun u hu=> ?_⟩
   simp only [SV.v,SC.v,h2,Int.toNat_zero,Nat.zero_mul,zbc]at hu
   cases hu
   simp [evn,ea,Addr.add]
 |func k=>exact⟨fun i hi=>(by cases hi),fun u hu=>(by cases hu;rfl)⟩
theorem agi(h:Rel C w0 S0 ρ S F w)(hn:C.nn=md.n){x:Operand}{c:SC}(hc:S.ev C x=.c' c):c.ok S.H.length∧evn md F x=c.v ρ:=by
 obtain⟨h1,h2⟩:=awz h hn x
 rw [hc]at h1 h2
 exact⟨h1,h2 _ rfl⟩
def Val(C:Cx)(md:Md)(ρ:Nat→Ad)(S:St)(F:Nat→Value)(w:World)(op:Op)(v:SV):Prop:=
 v.ok S.H.length∧∃u,v.v ρ=some u∧∀(d:Nat) (ty:TypeId) (pos:String) (after:Array Edge),(execOp (evn md F) (⟨some d,op,ty,pos,after,none⟩:Oper)).run C.P w=.ok (.value u) w
def All:List PD→Prop
 |[]=>True
 |q::l=>q.p∧All l
theorem afg{op:Op}{c:SC}{u:Value}(hk:c.ids=[])(he:u=c.v ρ)(h:∀(d:Nat) (ty:TypeId) (pos:String) (after:Array Edge),(execOp (evn md F) (⟨some d,op,ty,pos,after,none⟩:Oper)).run C.P w=.ok (.value u) w):Val C md ρ S F w op (.c' c):=
 ⟨fun id hi=>(by rw [hk]at hi;cases hi),u,by rw [he];rfl,h⟩
theorem ack{α:Type}{x:SV}{f:SC→Option α}{r:α}(h:on1 x f=some r):∃c,x=.c' c∧f c=some r:=by
 cases x with
 |c' c=>exact⟨c,rfl,h⟩
 |_=>cases h
theorem i64_eq{k:IntKind}(h:i64 k=true):k=.i64:=keq_eq h
theorem bI_ok{b:BinOp}{t t':TypeId}{x y:Operand}{k:IntKind}{u v:Int}{g:List PD}{r:SV}(hx:evn md F x=.int k u)(hy:evn md F y=.int k v)(h:bI b k u v=some (g,r))(hg:All g):Val C md ρ S F w (.binOp b t x y t') r:=by
 cases b<;>simp only [bI,okC,gdC,reduceCtorEq,Option.some.injEq,Prod.mk.injEq]at h
 case lss=>obtain⟨-,rfl⟩:=h;exact afg rfl rfl fun d ty pos after=>x_lss k u v hx hy
 case leq=>obtain⟨-,rfl⟩:=h;exact afg rfl rfl fun d ty pos after=>x_leq k u v hx hy
 case gtr=>obtain⟨-,rfl⟩:=h;exact afg rfl rfl fun d ty pos after=>x_gtr k u v hx hy
 case geq=>obtain⟨-,rfl⟩:=h;exact afg rfl rfl fun d ty pos after=>x_geq k u v hx hy
 case eql=>obtain⟨-,rfl⟩:=h;exact afg rfl rfl fun d ty pos after=>x_eql k u v hx hy
 case neq=>obtain⟨-,rfl⟩:=h;exact afg rfl rfl fun d ty pos after=>x_neq k u v hx hy
 case and=>obtain⟨-,rfl⟩:=h;exact afg rfl rfl fun d ty pos after=>x_and k u v hx hy
 case or=>obtain⟨-,rfl⟩:=h;exact afg rfl rfl fun d ty pos after=>x_or k u v hx hy
 case add=>
  cases hk:i64 k with
  |true=>
   rw [hk]at h;obtain rfl:=i64_eq hk
   simp only [cond_true,Option.some.injEq,Prod.mk.injEq]at h
   obtain⟨rfl,rfl⟩:=h
   exact afg rfl rfl fun d ty pos after=>x_add64 u v hx hy ⟨hg.1.lo,hg.1.hi⟩
  |false=>
   rw [hk]at h
   simp only [cond_false,Option.some.injEq,Prod.mk.injEq]at h
   obtain⟨-,rfl⟩:=h
   exact afg rfl rfl fun d ty pos after=>x_add k u v hx hy
 case sub=>
  cases hk:i64 k with
  |true=>
   rw [hk]at h;obtain rfl:=i64_eq hk
   simp only [cond_true,Option.some.injEq,Prod.mk.injEq]at h
   obtain⟨rfl,rfl⟩:=h
   exact afg rfl rfl fun d ty pos after=>x_sub64 u v hx hy ⟨hg.1.lo,hg.1.hi⟩
  |false=>
   rw [hk]at h
   simp only [cond_false,Option.some.injEq,Prod.mk.injEq]at h
   obtain⟨-,rfl⟩:=h
   exact afg rfl rfl fun d ty pos after=>x_sub k u v hx hy
 case mul=>
  cases hk:i64 k with
  |true=>
   rw [hk]at h;obtain rfl:=i64_eq hk
   simp only [cond_true,Option.some.injEq,Prod.mk.injEq]at h
   obtain⟨rfl,rfl⟩:=h
   exact afg rfl rfl fun d ty pos after=>x_mul64 u v hx hy ⟨hg.1.lo,hg.1.hi⟩
  |false=>
   rw [hk]at h
   simp only [cond_false,Option.some.injEq,Prod.mk.injEq]at h
   obtain⟨-,rfl⟩:=h
   exact afg rfl rfl fun d ty pos after=>x_mul k u v hx hy
 case quo=>
  cases hk:i64 k with
  |true=>
   rw [hk]at h;obtain rfl:=i64_eq hk
   simp only [cond_true,Option.some.injEq,Prod.mk.injEq]at h
   obtain⟨rfl,rfl⟩:=h
   exact afg rfl rfl fun d ty pos after=>x_quoT u v hx hy hg.1
  |false=>rw [hk]at h;cases h
 case rem=>
  cases hk:i64 k with
  |true=>
   rw [hk]at h;obtain rfl:=i64_eq hk
   simp only [cond_true,Option.some.injEq,Prod.mk.injEq]at h
   obtain⟨rfl,rfl⟩:=h
   exact afg rfl rfl fun d ty pos after=>x_remT u v hx hy hg.1
  |false=>rw [hk]at h;cases h
theorem x8_quo{n:Md}{P:Program}{d:Nat}{ty:TypeId}{pos:String}{after:Array Edge}{x y:Operand}{t t':TypeId}(a b:UInt8)(hx:evn n F x=bt a)(hy:evn n F y=bt b)(h:b≠0):(execOp (evn n F) (⟨some d,.binOp .quo t x y t',ty,pos,after,none⟩:Oper)).run P w=.ok (.value (bt (a/b))) w:=by
 have hb:0<b.toNat:=Nat.pos_of_ne_zero fun e=>h (UInt8.toNat_inj.1 e)
 have hlt:=zby (a/b)
 have hd:(a/b).toNat=a.toNat/b.toNat:=UInt8.toNat_div a b
 have he:(a.toNat:Int)/(b.toNat:Int)=((a/b).toNat:Int):=by rw [hd];rfl
 rw [x_quo .u8 (a.toNat:Int) (b.toNat:Int) hx hy (by omega) (by omega) (by rw [he,IntKind.wrap_u8];omega),he];rfl
theorem x8_rem{n:Md}{P:Program}{d:Nat}{ty:TypeId}{pos:String}{after:Array Edge}{x y:Operand}{t t':TypeId}(a b:UInt8)(hx:evn n F x=bt a)(hy:evn n F y=bt b)(h:b≠0):(execOp (evn n F) (⟨some d,.binOp .rem t x y t',ty,pos,after,none⟩:Oper)).run P w=.ok (.value (bt (a%b))) w:=by
 have hb:0<b.toNat:=Nat.pos_of_ne_zero fun e=>h (UInt8.toNat_inj.1 e)
 have hlt:=zby (a%b)
 have hd:(a%b).toNat=a.toNat%b.toNat:=UInt8.toNat_mod a b
 have he:(a.toNat:Int)%(b.toNat:Int)=((a%b).toNat:Int):=by rw [hd];rfl
 rw [x_rem .u8 (a.toNat:Int) (b.toNat:Int) hx hy (by omega) (by omega) (by rw [he,IntKind.wrap_u8];omega),he];rfl
theorem bC_ok{b:BinOp}{t t':TypeId}{x y:Operand}{u v:UInt8}{g:List PD}{r:SV}(hx:evn md F x=bt u)(hy:evn md F y=bt v)(h:bC b u v=some (g,r))(hg:All g):Val C md ρ S F w (.binOp b t x y t') r:=by
 cases b<;>simp only [bC,okC,gdC,reduceCtorEq,Option.some.injEq,Prod.mk.injEq]at h<;>obtain⟨rfl,rfl⟩:=h
 case lss=>exact afg rfl rfl fun d ty pos after=>x8_lss u v hx hy
 case leq=>exact afg rfl rfl fun d ty pos after=>x8_leq u v hx hy
 case gtr=>exact afg rfl rfl fun d ty pos after=>x8_gtr u v hx hy
 case geq=>exact afg rfl rfl fun d ty pos after=>x8_geq u v hx hy
 case eql=>exact afg rfl rfl fun d ty pos after=>x8_eql u v hx hy
 case neq=>exact afg rfl rfl fun d ty pos after=>x8_neq u v hx hy
 case add=>exact afg rfl rfl fun d ty pos after=>x8_add u v hx hy
 case sub=>exact afg rfl rfl fun d ty pos after=>x8_sub u v hx hy
 case mul=>exact afg rfl rfl fun d ty pos after=>x8_mul u v hx hy
 case quo=>exact afg rfl rfl fun d ty pos after=>x8_quo u v hx hy hg.1
 case rem=>exact afg rfl rfl fun d ty pos after=>x8_rem u v hx hy hg.1
 case and=>exact afg rfl rfl fun d ty pos after=>x8_and u v hx hy
 case or=>exact afg rfl rfl fun d ty pos after=>x8_or u v hx hy
theorem bS_ok{b:BinOp}{t t':TypeId}{x y:Operand}{u v:Str}{g:List PD}{r:SV}(hx:evn md F x=str u)(hy:evn md F y=str v)(h:bS b u v=some (g,r))(hg:All g):Val C md ρ S F w (.binOp b t x y t') r:=by
 cases b<;>simp only [bS,okC,gdC,reduceCtorEq,Option.some.injEq,Prod.mk.injEq]at h<;>obtain⟨rfl,rfl⟩:=h
 case lss=>exact afg rfl rfl fun d ty pos after=>x_strlt u v hx hy
 case gtr=>exact afg rfl rfl fun d ty pos after=>x_strgt u v hx hy
 case eql=>exact afg rfl rfl fun d ty pos after=>x_streq u v hx hy
 case neq=>exact afg rfl rfl fun d ty pos after=>x_strne u v hx hy
 case add=>exact afg rfl rfl fun d ty pos after=>x_strcat u v hx hy hg.1
theorem bB_ok{b:BinOp}{t t':TypeId}{x y:Operand}{u v:Bool}{g:List PD}{r:SV}(ht:C.P.underlying t=some .bool)(hx:evn md F x=.bool u)(hy:evn md F y=.bool v)(h:bB b u v=some (g,r)):Val C md ρ S F w (.binOp b t x y t') r:=by
 cases b<;>simp only [bB,okC,reduceCtorEq,Option.some.injEq,Prod.mk.injEq]at h<;>obtain⟨rfl,rfl⟩:=h
 case eql=>exact afg rfl rfl fun d ty pos after=>x_eqb u v ht hx hy
 case neq=>exact afg rfl rfl fun d ty pos after=>x_neb u v ht hx hy
theorem sh8_ok{z:Bool}{b:BinOp}{t t':TypeId}{x y:Operand}{k:IntKind}{u:UInt8}{v:Int}{g:List PD}{r:SV}(hx:evn md F x=bt u)(hy:evn md F y=.int k v)(hz:z=true→0≤v)(h:sh8 z b u v=some (g,r))(hg:All g):Val C md ρ S F w (.binOp b t x y t') r:=by
 cases b<;>simp only [sh8,okC,gdC,reduceCtorEq]at h
 case shl=>
  cases z with
  |true=>cases h;exact afg rfl rfl fun d ty pos after=>x8_shl k u v hx hy (hz rfl)
  |false=>cases h;exact afg rfl rfl fun d ty pos after=>x8_shl k u v hx hy hg.1
 case shr=>
  cases z with
  |true=>cases h;exact afg rfl rfl fun d ty pos after=>x8_shr k u v hx hy (hz rfl)
  |false=>cases h;exact afg rfl rfl fun d ty pos after=>x8_shr k u v hx hy hg.1
theorem isNN_ok{y:Operand}{k:IntKind}{v:Int}(hy:evn md F y=.int k v)(h:isNN y=true):0≤v:=by
 unfold isNN at h
 split at h
 ·rename_i k' n
  have:Value.int k' (.ofNat n)=.int k v:=hy
  cases this
  exact Int.natCast_nonneg n
 ·cases h
end
open Go.Wk
open Go.Ce (Tr)
open List renaming length_append → zab, length_cons → zad, length_set → zaD, mem_cons_of_mem → zaf, mem_cons_self → zak
open Nat renaming beq → zav, blt → zbh, eq_of_beq_eq_true → zag, le_of_ble_eq_true → zaG, lt_succ_self → zaZ, succ → zbk, zero_le → zah
theorem beqN(a b:Nat):zav a b=decide (a=b):=by
 by_cases h:a=b
 ·subst h;simp
 ·cases hb:zav a b with
  |true=>exact absurd (zag hb) h
  |false=>simp [h]
theorem bleN(a b:Nat):Nat.ble a b=decide (a≤b):=by
 by_cases h:a≤b
 ·simp [h,Nat.ble_eq]
 ·cases hb:Nat.ble a b with
  |true=>exact absurd (zaG hb) h
  |false=>simp [h]
theorem bltN(a b:Nat):zbh a b=decide (a<b):=by
 unfold zbh;rw [bleN];rfl
theorem afs{id j:Nat}:∀{l:List Rg},cov id j l=true↔∃q∈l,q.1=id∧q.2.1≤j∧j<q.2.2
 |[]=>by simp [cov]
 |q::l=>by
  have ih:=afs (id:=id) (j:=j) (l:=l)
  simp only [cov,beqN,bleN,bltN,Bool.cond_decide,List.mem_cons,exists_eq_or_imp]
  rw [←ih]
  by_cases h1:q.1=id<;>by_cases h2:q.2.1≤j<;>by_cases h3:j<q.2.2<;>simp [h1,h2,h3]
theorem aia{id j:Nat}{a b:List Rg}:cov id j (a++b)=true↔cov id j a=true∨cov id j b=true:=by
 simp only [afs,List.mem_append]
 constructor
 ·rintro⟨q,h|h,h2⟩
  ·exact .inl ⟨q,h,h2⟩
  ·exact .inr ⟨q,h,h2⟩
 ·rintro(⟨q,h,h2⟩|⟨q,h,h2⟩)
  ·exact⟨q,.inl h,h2⟩
  ·exact⟨q,.inr h,h2⟩
theorem aiw{t:Nat}:∀{l:List Nat},avk t l=true↔t∈l
 |[]=>by simp [avk]
 |x::l=>by
  simp only [avk,beqN,Bool.cond_decide,List.mem_cons]
  rw [←aiw (l:=l)]
  by_cases h:t=x<;>simp [h]
theorem disN_iff:∀{l r:List Nat},disN l r=true↔∀x∈l,x∉r
 |[],r=>by simp [disN]
 |x::l,r=>by
  have ih:=disN_iff (l:=l) (r:=r)
  have hm:=aiw (t:=x) (l:=r)
  simp only [disN,List.mem_cons,forall_eq_or_imp]
  rw [←ih,←hm]
  cases avk x r<;>simp
theorem nodN_iff:∀{l:List Nat},nodN l=true↔l.Nodup
 |[]=>by simp [nodN]
 |x::l=>by
  have ih:=nodN_iff (l:=l)
  have hm:=aiw (t:=x) (l:=l)
  simp only [nodN,List.nodup_cons]
  rw [←ih,←hm]
  cases avk x l<;>simp
theorem covs_in{id lo:Nat}{al:List Rg}{n:Nat}(h:covs id lo al n=true){j:Nat}(h1:lo≤j)(h2:j<lo+n):cov id j al=true:=covs_all h j h1 h2
theorem subR_ok{n:Nat}{al:List Rg}:∀{m:List Rg},subR n al m=true→∀{id j:Nat},id<n→cov id j m=true→cov id j al=true
 |[],_,id,j,_,hc=>by simp [cov]at hc
 |q::m,h,id,j,hid,hc=>by
  simp only [subR]at h
  have h:=agp h
  obtain⟨r,hr,h1,h2,h3⟩:=afs.1 hc
  rcases List.mem_cons.1 hr with rfl|hr
  ·have h4:=h.1
   rw [h1,bltN]at h4
   simp only [hid,decide_true,cond_true]at h4
   exact covs_in h4 h2 (by omega)
  ·exact subR_ok h.2 hid (afs.2 ⟨r,hr,h1,h2,h3⟩)
theorem oks_cov{S:St}{l:List Rg}(h:S.oks l=true){id j:Nat}(hid:id<S.nb)(hc:cov id j l=true):cov id j S.al=true:=by
 obtain⟨q,hq,h1,h2,h3⟩:=afs.1 hc
 subst h1
 exact ok_cov (oks_mem h q hq) hid j h2 h3
theorem avs{H:List Ob}:∀{l:List Nat} {id:Nat},id∈l→wholeO H id∈aok H l
 |x::l,id,h=>by
  rcases List.mem_cons.1 h with rfl|h
  ·exact zak
  ·exact zaf _ (avs h)
theorem wholeL_of{H:List Ob}:∀{l:List Nat} {q:Rg},q∈aok H l→∃id∈l,q=wholeO H id
 |x::l,q,h=>by
  rcases List.mem_cons.1 (show q∈wholeO H x::aok H l from h)with rfl|h
  ·exact⟨x,zak,rfl⟩
  ·obtain⟨id,h1,h2⟩:=wholeL_of h
   exact⟨id,zaf _ h1,h2⟩
theorem wholeO_cov{H:List Ob}{id e:Nat}{cs:List SC}(h:H[id]? =some (.bl e cs)){l:List Nat}(hm:id∈l){j:Nat}(hj:j≤cs.length):cov id j (aok H l)=true:=by
 refine afs.2 ⟨_,avs hm,rfl,zah _, ?_⟩
 unfold wholeO
 rw [abm,h]
 show j<zbk cs.length
 omega
theorem ary{H:List Ob}{id:Nat}{l:List Nat}(hm:id∈l):cov id 0 (aok H l)=true:=by
 refine afs.2 ⟨_,avs hm,rfl,zah _, ?_⟩
 unfold wholeO
 rw [abm]
 split
 ·rename_i h;simp_all
 ·simp
theorem aei{α:Type}{l:List α}{k j:Nat}{y:α}:(art l k y)[j]? =if j=k∧k<l.length then some y else l[j]? :=by
 rw [lset_eq,List.getElem?_set]
 by_cases h:k=j
 ·subst h
  by_cases h2:k<l.length
  ·simp [h2]
  ·simp [h2,List.getElem?_eq_none (Nat.le_of_not_lt h2)]
 ·rw [if_neg h,if_neg (by omega)]
theorem amz{α:Type}{l:List α}{k:Nat}{y:α}:(art l k y).length=l.length:=by rw [lset_eq,zaD]
theorem aws:∀{l:List Nat} {H:List Ob},(kill H l).length=H.length
 |[],_=>rfl
 |x::l,H=>by show(kill (art H x _) l).length=_;rw [aws,amz]
theorem anx{id:Nat}:∀{l:List Nat} {H:List Ob},(kill H l)[id]? =if id∈l then(H[id]?).map (fun o=>.dd o.len)else H[id]?
 |[],H=>by simp [kill]
 |x::l,H=>by
  show(kill (art H x _) l)[id]? =_
  rw [anx,aei]
  by_cases h:id=x
  ·subst h
   by_cases hl:id<H.length
   ·have e:H[id]? =some H[id]:=List.getElem?_eq_getElem hl
    simp [hl,atg,Ob.len]
   ·have e:H[id]? =none:=List.getElem?_eq_none (by omega)
    simp [hl,e]
  ·simp [h]
theorem unk_get:∀{l:List SC} {lo n j:Nat},(unk l lo n)[j]? =if lo≤j∧j<lo+n then(l[j]?).map (fun _=>SC.u')else l[j]?
 |[],lo,n,j=>by cases lo<;>cases n<;>simp [unk]
 |x::l,lo+1,n,j=>by
  simp only [unk]
  cases j with
  |zero=>simp
  |succ j=>
   rw [List.getElem?_cons_succ,List.getElem?_cons_succ,unk_get]
   by_cases h:lo≤j∧j<lo+n
   ·rw [if_pos h,if_pos (by omega)]
   ·rw [if_neg h,if_neg (by omega)]
 |x::l,0,0,j=>by simp [unk]
 |x::l,0,n+1,j=>by
  simp only [unk]
  cases j with
  |zero=>simp
  |succ j=>
   rw [List.getElem?_cons_succ,List.getElem?_cons_succ,unk_get]
   by_cases h:j<n
   ·rw [if_pos (by omega),if_pos (by omega)]
   ·rw [if_neg (by omega),if_neg (by omega)]
theorem unk_len:∀{l:List SC} {lo n:Nat},(unk l lo n).length=l.length
 |[],lo,n=>by cases lo<;>cases n<;>rfl
 |x::l,lo+1,n=>by simp [unk,unk_len (l:=l)]
 |x::l,0,0=>rfl
 |x::l,0,n+1=>by simp [unk,unk_len (l:=l)]
def Fgt(rs:List Rg)(id:Nat)(o o2:Ob):Prop:=match o with
 |.bl e cs=>∃cs2,o2=.bl e cs2∧cs2.length=cs.length∧∀j,cs2[j]? =if cov id j rs=true then(cs[j]?).map (fun _=>SC.u')else cs[j]?
 |o=>(o2=o∧∀q∈rs,q.1≠id)∨(o2=.dd o.len∧∃q∈rs,q.1=id)
theorem awh:∀{rs:List Rg} {H:List Ob},(aqm H rs).length=H.length
 |[],_=>rfl
 |q::rs,H=>by
  simp only [aqm]
  split<;>rw [awh,amz]
theorem asi{id:Nat}:∀{rs:List Rg} {H:List Ob} {o:Ob},H[id]? =some o→∃o2,(aqm H rs)[id]? =some o2∧Fgt rs id o o2
 |[],H,o,h=>by
  refine⟨o,h, ?_⟩
  cases o<;>simp [Fgt,cov]
 |q::rs,H,o,h=>by
  have hlt:id<H.length:=(List.getElem?_eq_some_iff.1 h).1
  simp only [aqm]
  by_cases hq:q.1=id
  ·subst hq
   rw [abm,h]
   cases o with
   |bl e cs=>
    simp only
    obtain⟨o2,h2,cs2,rfl,h4,h5⟩:=asi (id:=q.1) (rs:=rs) (H:=art H q.1 (.bl e (unk cs q.2.1 (q.2.2-q.2.1)))) (o:=.bl e (unk cs q.2.1 (q.2.2-q.2.1))) (by rw [aei];simp [hlt])
    refine⟨_,h2,cs2,rfl,by rw [h4,unk_len],fun j=> ?_⟩
    rw [h5,unk_get]
    have hc:cov q.1 j (q::rs)=true↔(q.2.1≤j∧j<q.2.1+(q.2.2-q.2.1))∨cov q.1 j rs=true:=by
     rw [show q::rs=[q]++rs from rfl,aia,afs (l:=[q])]
     simp only [List.mem_singleton,exists_eq_left,true_and]
     constructor
     ·rintro(h|h)
      ·exact .inl (by omega)
      ·exact .inr h
     ·rintro(h|h)
      ·exact .inl (by omega)
      ·exact .inr h
    by_cases h6:cov q.1 j rs=true
    ·rw [if_pos h6,if_pos (hc.2 (.inr h6))]
     split<;>simp [Function.comp_def]
    ·rw [if_neg h6]
     by_cases h7:q.2.1≤j∧j<q.2.1+(q.2.2-q.2.1)
     ·rw [if_pos h7,if_pos (hc.2 (.inl h7))]
     ·rw [if_neg h7,if_neg (fun h=>(hc.1 h).elim h7 h6)]
   |_=>
    simp only
    obtain⟨o2,h2,h3⟩:=asi (id:=q.1) (rs:=rs) (H:=art H q.1 (.dd (lenH H q.1))) (o:=.dd (lenH H q.1)) (by rw [aei];simp [hlt])
    refine⟨o2,h2,.inr ⟨?_,q,zak,rfl⟩⟩
    have e:o2=.dd (lenH H q.1):=by
     rcases h3 with⟨h3,_⟩|⟨h3,_⟩
     ·exact h3
     ·exact h3
    rw [e,lenH_get h]
  ·have key:∀y,(art H q.1 y)[id]? =some o:=fun y=>by rw [aei,if_neg (fun hh=>hq hh.1.symm)];exact h
   have fin:∀y,∃o2,(aqm (art H q.1 y) rs)[id]? =some o2∧Fgt (q::rs) id o o2:=by
    intro y
    obtain⟨o2,h2,h3⟩:=asi (rs:=rs) (key y)
    refine⟨o2,h2, ?_⟩
    cases o with
    |bl e cs=>
     obtain⟨cs2,h4,h5,h6⟩:=h3
     refine⟨cs2,h4,h5,fun j=> ?_⟩
     rw [h6]
     have:cov id j (q::rs)=cov id j rs:=by
      have hb:zav q.1 id=false:=by rw [beqN];simp [hq]
      simp [cov,hb]
     rw [this]
    |_=>
     rcases h3 with⟨h3,h4⟩|⟨h3,r,h4,h5⟩
     ·exact .inl ⟨h3,fun r hr=>(List.mem_cons.1 hr).elim (fun e=>e▸hq) (h4 r)⟩
     ·exact .inr ⟨h3,r,zaf _ h4,h5⟩
   split
   ·exact fin _
   ·exact fin _
theorem forget_none{rs:List Rg}{H:List Ob}{id:Nat}(h:H[id]? =none):(aqm H rs)[id]? =none:=by
 rw [List.getElem?_eq_none_iff]at h⊢
 rw [awh];exact h
noncomputable def gtF(F:Tr SV)(t:Nat):SV:=match F.get t with
 |some v=>v
 |none=>.u'
theorem St.at_eq(S:St)(t:Nat):S.at t=gtF S.F t:=rfl
theorem gtF_set(F:Tr SV)(d t:Nat)(v:SV):gtF (F.set d v) t=if t=d then v else gtF F t:=by
 unfold gtF
 by_cases h:t=d
 ·subst h;rw [Go.Ce.Tr.get_set];simp
 ·rw [Go.Ce.Tr.get_set,if_neg h,if_neg h]
theorem del_get{t:Nat}:∀{w:List Nat} {F:Tr SV},gtF (del F w) t=if t∈w then .u' else gtF F t
 |[],F=>by simp [del]
 |x::w,F=>by
  show gtF (del (F.set x .u') w) t=_
  rw [del_get,gtF_set]
  by_cases h:t=x
  ·subst h;simp
  ·simp [h]
theorem awq:∀(t:Ty) (s n:Nat) (x:t.T) (j e:Nat) (cs:List SC),(t.lay s n x).2[j]? =some (.bl e cs)→∀c∈cs,c.ok (n+(t.lay s n x).2.length):=by
 intro t
 induction t with
 |w' t ih=>intro s n x;exact ih s n x
 |pr a b iha ihb=>
  intro s n x j e cs h
  have h:((a.lay s n x.1).2++(b.lay s (n+a.no) x.2).2)[j]? =some (.bl e cs):=h
  have hl:((Ty.pr a b).lay s n x).2.length=(a.lay s n x.1).2.length+(b.lay s (n+a.no) x.2).2.length:=by
   show((a.lay s n x.1).2++(b.lay s (n+a.no) x.2).2).length=_
   rw [zab]
  have hla:=a.lay_no s n x.1
  intro c hc
  rw [hl]
  by_cases hj:j<(a.lay s n x.1).2.length
  ·rw [List.getElem?_append_left hj]at h
   exact SC.ok_mono (iha _ _ _ _ _ _ h c hc) (by omega)
  ·rw [List.getElem?_append_right (by omega)]at h
   exact SC.ok_mono (ihb _ _ _ _ _ _ h c hc) (by omega)
 |p' e t ih=>
  intro s n x j e2 cs h
  have hl:((Ty.p' e t).lay s n x).2.length=(t.lay n (n+1) x).2.length+1:=by
   show(_::_:List Ob).length=_
   rw [zad]
  intro c hc
  rw [hl]
  cases j with
  |zero=>
   have h:Ob.bl e (t.lay n (n+1) x).1=.bl e2 cs:=Option.some.inj h
   cases h
   intro id hi
   rcases(Ty.lay_ok t n (n+1) x c hc).2 id hi with h|h<;>omega
  |succ j=>
   have h:(t.lay n (n+1) x).2[j]? =some (.bl e2 cs):=h
   exact SC.ok_mono (ih _ _ _ _ _ _ h c hc) (by omega)
 |f' k t ih=>intro s n x;exact ih s n x
 |l' e b t ih=>
  intro s n x j e2 cs h
  cases j with
  |zero=>cases Option.some.inj h
  |succ j=>simp [Ty.lay]at h
 |y'=>
  intro s n x j e2 cs h
  cases j with
  |zero=>cases Option.some.inj h
  |succ j=>simp [Ty.lay]at h
 |r' t ih=>
  intro s n x j e2 cs h
  cases j with
  |zero=>cases Option.some.inj h
  |succ j=>simp [Ty.lay]at h
 |z'=>
  intro s n x j e2 cs h
  cases j with
  |zero=>cases Option.some.inj h
  |succ j=>simp [Ty.lay]at h
 |_=>intro s n x j e2 cs h;simp [Ty.lay]at h
theorem avx:∀(t:Ty) (s n:Nat) (x:t.T),t.tz=false→∀c∈(t.lay s n x).1,c.ok (n+(t.lay s n x).2.length):=by
 intro t
 induction t with
 |w' t ih=>intro s n x h;exact ih s n x h
 |pr a b iha ihb=>
  intro s n x h c hc
  have ha:a.tz=false:=by
   cases ha:a.tz with
   |true=>simp [Ty.tz,ha]at h
   |false=>rfl
  have hb:b.tz=false:=by simpa [Ty.tz,ha] using h
  have hl:((Ty.pr a b).lay s n x).2.length=(a.lay s n x.1).2.length+(b.lay s (n+a.no) x.2).2.length:=by
   show((a.lay s n x.1).2++(b.lay s (n+a.no) x.2).2).length=_
   rw [zab]
  have hla:=a.lay_no s n x.1
  rw [hl]
  rcases List.mem_append.1 (show c∈(a.lay s n x.1).1++(b.lay s (n+a.no) x.2).1 from hc)with hc|hc
  ·exact SC.ok_mono (iha _ _ _ ha c hc) (by omega)
  ·exact SC.ok_mono (ihb _ _ _ hb c hc) (by omega)
 |f' k t ih=>
  intro s n x h c hc
  have:c=_:=List.mem_singleton.1 hc
  subst this
  intro id hi
  obtain⟨c2,h1,h2⟩:=mem_ptrL (show id∈ptrL (t.lay s n x).1 from hi)
  exact ih s n x h c2 h1 id h2
 |z'=>intro s n x h;cases h
 |u'=>intro s n x h c hc;cases hc
 |sm a b _ _=>intro s n x h c hc;cases hc
 |p' e t ih=>
  intro s n x h c hc
  have:c=_:=List.mem_singleton.1 hc
  subst this
  intro id hi
  have:id=n:=List.mem_singleton.1 hi
  subst this
  show id<id+(_::_:List Ob).length
  simp
 |l' e b t ih=>
  intro s n x h c hc
  have:c=_:=List.mem_singleton.1 hc
  subst this
  intro id hi
  have:id=n:=List.mem_singleton.1 hi
  subst this
  exact zaZ _
 |r' t ih=>
  intro s n x h c hc
  have:c=_:=List.mem_singleton.1 hc
  subst this
  intro id hi
  have:id=n:=List.mem_singleton.1 hi
  subst this
  exact zaZ _
 |y'=>
  intro s n x h c hc
  have:c=_:=List.mem_singleton.1 hc
  subst this
  intro id hi
  have:id=n:=List.mem_singleton.1 hi
  subst this
  exact zaZ _
 |_=>
  intro s n x h c hc
  have:c=_:=List.mem_singleton.1 hc
  subst this
  intro id hi
  cases hi
open List renaming append_assoc → zal, append_nil → zam, length_append → zab, length_take → zaE, mem_cons_of_mem → zaf, mem_cons_self → zak
open Nat renaming add_assoc → zaQ, beq → zav, eq_of_beq_eq_true → zag
def Lns(ρ:Nat→Ad)(H:List Ob):Prop:=∀(id:Nat) (o:Ob),H[id]? =some o→o.len=(ρ id).ln
theorem sok_len{ρ ρ2:Nat→Ad}{H:List Ob}(hl:Lns ρ H)(hb:Brk H){s:Src}{o:Ob}(h:SOk false ρ H ρ2 s o):o.len=(s.ad ρ).ln:=by
 cases o with
 |bl e cs=>obtain⟨id,cs1,rfl,h1,_⟩:=h;exact(hl id (.bl e cs1) h1:_)
 |rw e b t l=>
  rcases h with⟨id,rfl,h1⟩|⟨rfl,rfl⟩|⟨id,m,cs,rfl,h1,h2,_⟩
  ·exact hl id _ h1
  ·rfl
  ·exact(asn h2).1
 |ro t l=>
  rcases h with⟨id,rfl,h1⟩|⟨rfl,rfl⟩|⟨h,_⟩
  ·exact hl id _ (roOf_some h1)
  ·rfl
  ·cases h
 |br n l=>
  obtain⟨rfl,id,m,rfl,h1⟩:=h
  have h2:=hl id _ h1
  have h3:=hb id m l h1
  show l.length=_
  rw [h3];exact h2
 |dd n=>
  obtain⟨rfl,⟨t,rfl⟩|⟨fl,rfl,h1⟩⟩:=h
  ·rfl
  ·exact hl fl _ h1
structure RdV (any:Bool) (H:List Ob) (x:Ty) (sv:SV) (v:x.T) (ss:List Src):Prop where
 no:ss.length=x.no
 tz:x.tz=false
 to:∀(ρ ρ2:Nat→Ad) (n:Nat),(∀(j:Nat) (s:Src),ss[j]? =some s→ρ2 (n+j)=s.ad ρ)→
  (∃u,sv.v ρ=some u∧(x.sv (x.lay 0 n v).1).v ρ2=some u∧(x.sa (x.lay 0 n v).1).v ρ2=u)∧∀(j:Nat) (s:Src) (o:Ob),ss[j]? =some s→(x.lay 0 n v).2[j]? =some o→SOk any ρ H ρ2 s o
theorem fulL_some{α:Type}{r:Option (α×List SC×List Src)}{x:α}{ss:List Src}(h:fulL r=some (x,ss)):r=some (x,[],ss):=by
 unfold fulL at h
 split at h
 ·cases h;rfl
 ·cases h
theorem rdV_ok{any:Bool}{H:List Ob}(hb:Brk H){x:Ty}{sv:SV}{v:x.T}{ss:List Src}(h:rdV any H x sv=some (v,ss)):RdV any H x sv v ss:=by
 unfold rdV at h
 split at h
 ·rename_i c
  cases htz:x.tz with
  |true=>rw [htz]at h;cases h
  |false=>
   cases hag:x.agg with
   |true=>rw [htz,hag]at h;cases h
   |false=>
    rw [htz,hag]at h
    simp only [cond_false]at h
    have hr:=rd_ok any H hb x 0 _ _ _ _ (fulL_some h)
    refine⟨hr.no,htz,fun ρ ρ2 n had=> ?_⟩
    obtain⟨h1,h2⟩:=hr.to ρ ρ2 0 n ⟨fun ht=>(by rw [htz]at ht;cases ht),had⟩
    refine⟨⟨c.v ρ,rfl, ?_⟩,h2⟩
    rw [List.map_nil,zam]at h1
    unfold Ty.sv Ty.sa
    rw [hag]
    cases hq:(x.lay 0 n v).1 with
    |nil=>rw [hq]at h1;cases h1
    |cons c2 l2=>
     rw [hq]at h1
     cases l2 with
     |cons _ _=>simp at h1
     |nil=>
      have h1:c.v ρ=c2.v ρ2:=by simpa using h1
      exact⟨by show some (c2.v ρ2)=_;rw [h1],by show c2.v ρ2=_;rw [h1]⟩
 ·rename_i l
  cases htz:x.tz with
  |true=>rw [htz]at h;cases h
  |false=>
   cases hag:x.agg with
   |false=>rw [htz,hag]at h;cases h
   |true=>
    rw [htz,hag]at h
    simp only [cond_false,cond_true]at h
    have hr:=rd_ok any H hb x 0 _ _ _ _ (fulL_some h)
    refine⟨hr.no,htz,fun ρ ρ2 n had=> ?_⟩
    obtain⟨h1,h2⟩:=hr.to ρ ρ2 0 n ⟨fun ht=>(by rw [htz]at ht;cases ht),had⟩
    refine⟨⟨_,rfl, ?_⟩,h2⟩
    rw [List.map_nil,zam]at h1
    unfold Ty.sv Ty.sa
    rw [hag]
    exact⟨by show some (Value.agg _)=_;rw [h1],by show Value.agg _=_;rw [h1]⟩
 ·cases h
def BO(H2:List Ob)(ρ2 ρ3:Nat→Ad)(id:Nat):Ob→Prop
 |.bl e cs=>∃cs2,H2[id]? =some (.bl e cs2)∧cs2.length=cs.length∧∀(j:Nat) (c:SC),cs[j]? =some c→c.kn=true→∃c2,cs2[j]? =some c2∧c2.kn=true∧c2.v ρ2=c.v ρ3
 |.dd _=>True
 |o=>H2[id]? =some o
structure PI (n0:Nat) (H2:List Ob) (ρ ρ2 ρ3:Nat→Ad) (F2:Nat→Value) (E:List Nat) (H0:List Ob) (al:List Rg) (Fm:Tr SV) (H1:List Ob) (done:List Src):Prop where
 len:H1.length=n0+done.length
 fr:∀t u,(gtF Fm t).v ρ3=some u→F2 t=u
 fo:∀t,(gtF Fm t).ok H1.length
 ho:∀(id e:Nat) (cs:List SC),H1[id]? =some (.bl e cs)→∀c∈cs,c.ok H1.length
 ln:Lns ρ3 H1
 ba:∀(id:Nat) (o:Ob),id<n0→H1[id]? =some o→BO H2 ρ2 ρ3 id o
 nw:∀(j:Nat) (s:Src) (o:Ob),done[j]? =some s→H1[n0+j]? =some o→SOk false ρ2 H2 ρ3 s o
 de:∀id,id<n0→id∈E→∃m,H1[id]? =some (.dd m)
 kp:∀(id:Nat) (o:Ob),H0[id]? =some o→asl al id ρ ρ3 H1[id]? o
section
variable {n0 : Nat} {H2 H0 H1 : List Ob} {ρ ρ2 ρ3 : Nat → Ad} {F2 : Nat → Value} {E : List Nat} {al : List Rg} {Fm : Tr SV} {done : List Src}
theorem PI.app(h:PI n0 H2 ρ ρ2 ρ3 F2 E H0 al Fm H1 done)(hln:Lns ρ2 H2)(hbr:Brk H2)(hn0:H0.length≤n0){obs:List Ob}{sk:List Src}(hl:sk.length=obs.length)
  (had:∀(j:Nat) (s:Src),sk[j]? =some s→ρ3 (H1.length+j)=s.ad ρ2) (hs:∀(j:Nat) (s:Src) (o:Ob),sk[j]? =some s→obs[j]? =some o→SOk false ρ2 H2 ρ3 s o)
  (hc:∀(j e:Nat) (cs:List SC),obs[j]? =some (.bl e cs)→∀c∈cs,c.ok (H1.length+obs.length)):PI n0 H2 ρ ρ2 ρ3 F2 E H0 al Fm (H1++obs) (done++sk):=by
 have hlt:∀{id:Nat} {o:Ob},id<H1.length→(H1++obs)[id]? =H1[id]? :=fun h=>List.getElem?_append_left h
 have hlen:=h.len
 refine⟨by simp [h.len,hl,zaQ],h.fr,fun t=>SV.ok_mono (h.fo t) (by simp),fun id e cs ho c hcm=> ?_,fun id o ho=> ?_,fun id o hi ho=> ?_,fun j s o hj ho=> ?_,fun id hi he=> ?_,fun id o ho=> ?_⟩
 ·by_cases hi:id<H1.length
  ·rw [List.getElem?_append_left hi]at ho
   exact SC.ok_mono (h.ho id e cs ho c hcm) (by simp)
  ·rw [List.getElem?_append_right (by omega)]at ho
   rw [zab]
   exact hc _ e cs ho c hcm
 ·by_cases hi:id<H1.length
  ·rw [List.getElem?_append_left hi]at ho
   exact h.ln id o ho
  ·rw [List.getElem?_append_right (by omega)]at ho
   have hk:=(List.getElem?_eq_some_iff.1 ho).1
   have hsk:sk[id-H1.length]? =some (sk[id-H1.length]'(by omega)):=List.getElem?_eq_getElem (by omega)
   have e:=had _ _ hsk
   rw [show H1.length+(id-H1.length)=id by omega]at e
   rw [e]
   exact sok_len hln hbr (hs _ _ o hsk ho)
 ·rw [List.getElem?_append_left (by omega)]at ho
  exact h.ba id o hi ho
 ·by_cases hi:j<done.length
  ·rw [List.getElem?_append_left hi]at hj
   rw [List.getElem?_append_left (by omega)]at ho
   exact h.nw j s o hj ho
  ·rw [List.getElem?_append_right (by omega)]at hj
   rw [List.getElem?_append_right (by omega)]at ho
   rw [show n0+j-H1.length=j-done.length by omega]at ho
   exact hs _ s o hj ho
 ·rw [List.getElem?_append_left (by omega)]
  exact h.de id hi he
 ·have:=(List.getElem?_eq_some_iff.1 ho).1
  rw [List.getElem?_append_left (by omega)]
  exact h.kp id o ho
theorem PI.set(h:PI n0 H2 ρ ρ2 ρ3 F2 E H0 al Fm H1 done){t:Nat}{v:SV}(hv:∀u,v.v ρ3=some u→F2 t=u)(ho:v.ok H1.length):PI n0 H2 ρ ρ2 ρ3 F2 E H0 al (Fm.set t v) H1 done:=by
 refine⟨h.len,fun t2 u hu=> ?_,fun t2=> ?_,h.ho,h.ln,h.ba,h.nw,h.de,h.kp⟩
 ·rw [gtF_set]at hu
  by_cases e:t2=t
  ·subst e;rw [if_pos rfl]at hu;exact hv u hu
  ·rw [if_neg e]at hu;exact h.fr t2 u hu
 ·rw [gtF_set]
  by_cases e:t2=t
  ·rw [if_pos e];exact ho
  ·rw [if_neg e];exact h.fo t2
theorem PI.upd(h:PI n0 H2 ρ ρ2 ρ3 F2 E H0 al Fm H1 done){id:Nat}{o o1:Ob}(hi:id<n0)(h1:H1[id]? =some o1)(hln:o.len=o1.len)(hba:BO H2 ρ2 ρ3 id o)(hE:id∉E)
  (hok:∀(e:Nat) (cs:List SC),o=.bl e cs→∀c∈cs,c.ok H1.length) (hkp:∀o0,H0[id]? =some o0→asl al id ρ ρ3 (some o) o0):PI n0 H2 ρ ρ2 ρ3 F2 E H0 al Fm (art H1 id o) done:=by
 have hlt:=(List.getElem?_eq_some_iff.1 h1).1
 have hlen:=h.len
 refine⟨by rw [amz];exact h.len,h.fr,fun t=>by rw [amz];exact h.fo t,fun k e cs ho c hc=> ?_,fun k p ho=> ?_,fun k p hk ho=> ?_,fun j s p hj ho=> ?_,fun k hk he=> ?_,fun k p ho=> ?_⟩
 ·rw [aei]at ho
  rw [amz]
  split at ho
  ·cases ho;exact hok e cs rfl c hc
  ·exact h.ho k e cs ho c hc
 ·rw [aei]at ho
  split at ho
  ·rename_i hh
   cases ho
   rw [hh.1,hln];exact h.ln id o1 h1
  ·exact h.ln k p ho
 ·rw [aei]at ho
  split at ho
  ·rename_i hh
   cases ho
   rw [hh.1];exact hba
  ·exact h.ba k p hk ho
 ·rw [aei,if_neg (by omega)]at ho
  exact h.nw j s p hj ho
 ·rw [aei,if_neg (fun(hh:k=id∧_)=>hE (hh.1▸he))]
  exact h.de k hk he
 ·rw [aei]
  split
  ·rename_i hh
   rw [hh.1]at ho⊢
   exact hkp p ho
  ·exact h.kp k p ho
end
theorem Ty.sv_ok{x:Ty}{cs:List SC}{n:Nat}(h:∀c∈cs,c.ok n):(x.sv cs).ok n:=by
 unfold Ty.sv
 cases x.agg with
 |true=>exact h
 |false=>
  simp only [cond_false]
  split
  ·exact h _ (List.mem_singleton.2 rfl)
  ·trivial
theorem Ty.sa_ok{x:Ty}{cs:List SC}{n:Nat}(h:∀c∈cs,c.ok n):(x.sa cs).ok n:=by
 unfold Ty.sa
 cases x.agg with
 |true=>exact h
 |false=>
  simp only [cond_false]
  split
  ·exact h _ (List.mem_singleton.2 rfl)
  ·exact h
def KC(n0:Nat)(H0:List Ob)(E:List Nat)(al:List Rg)(ix:Nat→Nat):Key→Prop
 |.s' _ _=>True
 |.o' t off x=>ix t<n0∧∀j,off≤j→j<off+x.cn→cov (ix t) j al=true
 |.w' t _=>ix t<n0∧cov (ix t) 0 al=true∧ix t∉E∧apn H0[ix t]? =true
section
variable {n0 : Nat} {H2 H0 H1 : List Ob} {ρ ρ2 ρ3 : Nat → Ad} {F2 : Nat → Value} {E : List Nat} {al : List Rg} {Fm : Tr SV} {done : List Src} {ix : Nat → Nat} {at2 : Nat → SV}
theorem PI.stepS(h:PI n0 H2 ρ ρ2 ρ3 F2 E H0 al Fm H1 done)(hln:Lns ρ2 H2)(hbr:Brk H2)(hn0:H0.length≤n0)(hf:∀t u,(at2 t).v ρ2=some u→F2 t=u){t:Nat}{x:Ty}{v:x.T}{sk:List Src}(hr:rdV false H2 x (at2 t)=some (v,sk))
  (had:∀(j:Nat) (s:Src),sk[j]? =some s→ρ3 (H1.length+j)=s.ad ρ2):PI n0 H2 ρ ρ2 ρ3 F2 E H0 al (putV Fm H1 t x v).1 (putV Fm H1 t x v).2 (done++sk):=by
 have hv:=rdV_ok hbr hr
 obtain⟨⟨u,h1,h2,_⟩,h3⟩:=hv.to ρ2 ρ3 H1.length had
 have hl:sk.length=(x.lay 0 H1.length v).2.length:=by rw [hv.no,Ty.lay_no]
 refine(h.app hln hbr hn0 hl had h3 (awq x 0 H1.length v)).set ?_ ?_
 ·intro u2 hu2
  rw [h2]at hu2
  cases hu2
  exact hf t u h1
 ·rw [zab]
  exact Ty.sv_ok (avx x 0 H1.length v hv.tz)
theorem PI.stepO(h:PI n0 H2 ρ ρ2 ρ3 F2 E H0 al Fm H1 done)(hln:Lns ρ2 H2)(hbr:Brk H2)(hn0:H0.length≤n0)(hup:Up n0 ρ2 ρ3){id off:Nat}{x:Ty}{v:x.T}{sk:List Src}(hr:rdB H2 id off x=some (v,sk))(hid:id<n0)
  (hcov:∀j,off≤j→j<off+x.cn→cov id j al=true) (had:∀(j:Nat) (s:Src),sk[j]? =some s→ρ3 (H1.length+j)=s.ad ρ2):PI n0 H2 ρ ρ2 ρ3 F2 E H0 al Fm (putB H1 id off x v) (done++sk):=by
 unfold rdB at hr
 split at hr
 ·rename_i e2 cs2 hg
  rw [abm]at hg
  split at hr
  ·rename_i q hq
   have hrd:=rd_ok false H2 hbr x id _ _ _ _ (fulL_some hr)
   obtain⟨hq1,hq2⟩:=ltake_some hq
   rw [ldrop_eq]at hq1 hq2
   obtain⟨h1,h2⟩:=hrd.to ρ2 ρ3 id H1.length ⟨fun _=>by rw [hup id hid],had⟩
   rw [List.map_nil,zam]at h1
   have hl:sk.length=(x.lay id H1.length v).2.length:=by rw [hrd.no,Ty.lay_no]
   have h3:=h.app hln hbr hn0 hl had h2 (awq x id H1.length v)
   have hlt:id<H1.length:=by have:=h.len;omega
   unfold putB
   split
   ·rename_i e cs hc
    rw [abm]at hc
    have hcom:art H1 id (.bl e (putD cs off (x.lay id H1.length v).1))++(x.lay id H1.length v).2=art (H1++(x.lay id H1.length v).2) id (.bl e (putD cs off (x.lay id H1.length v).1)):=by
     rw [lset_eq,lset_eq,List.set_append_left _ _ hlt]
    rw [hcom]
    have hc2:(H1++(x.lay id H1.length v).2)[id]? =some (.bl e cs):=by rw [List.getElem?_append_left hlt];exact hc
    obtain⟨cs3,hb1,hb2,hb3⟩:=h.ba id _ hid hc
    rw [hg]at hb1
    cases hb1
    have hll:=x.lay_len id H1.length v
    have hql:q.length=x.cn:=by rw [hq1,zaE];omega
    have hnew:∀(j:Nat) (c:SC),(putD cs off (x.lay id H1.length v).1)[j]? =some c→(off≤j∧j<off+x.cn∧(x.lay id H1.length v).1[j-off]? =some c)∨(cs[j]? =some c∧¬(off≤j∧j<off+x.cn))∨(cs[j]? =some c∧putC cs off (x.lay id H1.length v).1=none):=by
     intro j c hj
     unfold putD at hj
     split at hj
     ·rename_i q2 hq2
      rw [putC_get hq2,hll]at hj
      split at hj
      ·rename_i hh;exact .inl ⟨hh.1,hh.2,hj⟩
      ·rename_i hh;exact .inr (.inl ⟨hj,hh⟩)
     ·rename_i hn;exact .inr (.inr ⟨hj,hn⟩)
    have hdl:(putD cs off (x.lay id H1.length v).1).length=cs.length:=by
     unfold putD
     split
     ·rename_i q2 hq2;exact putC_len hq2
     ·rfl
    refine h3.upd hid hc2 rfl ⟨cs2,hg,by rw [hb2,hdl],fun j c hj hk=> ?_⟩ (fun hE=> ?_) (fun e3 cs3 he c hcm=> ?_) (fun o0 ho0=> ?_)
    ·rcases hnew j c hj with⟨ha,hb,hc3⟩|⟨hc3,_⟩|⟨hc3,_⟩
     ·have h5:(q.map (SC.v ρ2))[j-off]? =some (c.v ρ3):=by rw [h1,List.getElem?_map,hc3];rfl
      rw [List.getElem?_map]at h5
      cases hqj:q[j-off]? with
      |none=>rw [hqj]at h5;cases h5
      |some c2=>
       rw [hqj]at h5
       have h5:c2.v ρ2=c.v ρ3:=Option.some.inj h5
       obtain⟨us,hu1,hu2⟩:=hrd.kn
       rw [zam]at hu1
       refine⟨c2, ?_,hu2 c2 (hu1▸List.mem_of_getElem? hqj),h5⟩
       rw [hq1,List.getElem?_take,if_pos (by omega),List.getElem?_drop]at hqj
       rw [←hqj];congr 1;omega
     ·exact hb3 j c hc3 hk
     ·exact hb3 j c hc3 hk
    ·obtain⟨m,hm⟩:=h.de id hid hE
     rw [hc]at hm;cases hm
    ·cases he
     obtain⟨j,hj⟩:=List.mem_iff_getElem?.1 hcm
     rcases hnew j c hj with⟨ha,hb,hc3⟩|⟨hc3,_⟩|⟨hc3,_⟩
     ·intro i hi
      rw [zab]
      rcases(Ty.lay_ok x id H1.length v c (List.mem_of_getElem? hc3)).2 i hi with h6|h6<;>omega
     ·exact SC.ok_mono (h.ho id _ cs hc c (List.mem_of_getElem? hc3)) (by simp)
     ·exact SC.ok_mono (h.ho id _ cs hc c (List.mem_of_getElem? hc3)) (by simp)
    ·have hk:=h.kp id o0 ho0
     rw [hc]at hk
     cases o0 with
     |bl e0 cs0=>
      rcases hk with hk|⟨cs4,hk1,hk2,hk3⟩
      ·exact .inl hk
      ·cases hk1
       refine .inr ⟨_,rfl,by rw [hdl,hk2],fun j c hj=> ?_⟩
       by_cases hin:off≤j∧j<off+x.cn
       ·exact .inl (hcov j hin.1 hin.2)
       ·rcases hk3 j c hj with h7|⟨c2,h7,h8⟩
        ·exact .inl h7
        ·right
         refine⟨c2, ?_,h8⟩
         unfold putD
         split
         ·rename_i q2 hq2
          rw [putC_get hq2,hll,if_neg hin];exact h7
         ·exact h7
     |rw _ _ _ _=>exact hk.elim .inl fun h=>by cases h
     |br _ _=>exact hk.elim .inl fun h=>by cases h
     |ro _ _=>cases hk
     |dd _=>cases hk
   ·exact h3
  ·cases hr
 ·cases hr
theorem wOf_some{H:List Ob}{id:Nat}{x:Ty}{v:x.T}(h:wOf H id x=some v):(∃m,∃o,wPut m x v=some o∧∃o2,H[id]? =some o2∧(o2.len=m→o2=o)∧((∃e b t l,o=.rw e b t l∧o2=o)∨∃l m2,o=.br m l∧o2=.br m2 l)):=by
 cases x with
 |l' e b t=>
  simp only [wOf]at h
  split at h
  ·rename_i q hq
   cases he:zav q.1 e with
   |false=>rw [he]at h;cases h
   |true=>
    cases hb:zav q.2 b with
    |false=>rw [he,hb]at h;cases h
    |true=>
     rw [he,hb]at h
     have hg:=rwE_rowOf hq h
     rw [abm,zag he,zag hb]at hg
     exact⟨0,_,rfl,_,hg,fun _=>rfl,.inl ⟨e,b,t,v,rfl,rfl⟩⟩
  ·cases h
 |y'=>
  simp only [wOf]at h
  split at h
  ·rename_i m x hg
   rw [abm]at hg
   cases h
   exact⟨m,_,rfl,_,hg,fun _=>rfl,.inr ⟨v,m,rfl,rfl⟩⟩
  ·cases h
 |_=>cases h
theorem PI.stepW(h:PI n0 H2 ρ ρ2 ρ3 F2 E H0 al Fm H1 done)(hln:Lns ρ2 H2)(hbr:Brk H2)(hn0:H0.length≤n0)(hup:Up n0 ρ2 ρ3){id:Nat}{x:Ty}{v:x.T}{sk:List Src}(hr:rdW H2 id x=some (v,sk))(hid:id<n0)
  (hcov:cov id 0 al=true) (hE:id∉E) (hrow:apn H0[id]? =true):PI n0 H2 ρ ρ2 ρ3 F2 E H0 al Fm (putW H1 id x v) (done++sk):=by
 unfold rdW at hr
 split at hr
 ·rename_i y hy
  cases hr
  rw [zam]
  have hlt:id<H1.length:=by have:=h.len;omega
  have h1:H1[id]? =some H1[id]:=List.getElem?_eq_getElem hlt
  have hlen:(H1[id]).len=(ρ2 id).ln:=by rw [h.ln id _ h1,hup id hid]
  have hkp:∀(o:Ob) (o0:Ob),H0[id]? =some o0→asl al id ρ ρ3 (some o) o0:=by
   intro o o0 ho0
   rw [ho0]at hrow
   cases o0 with
   |rw _ _ _ _=>exact .inl hcov
   |br _ _=>exact .inl hcov
   |_=>cases hrow
  unfold putW
  rw [lenH_get h1,hlen]
  cases x with
  |l' e b t=>
   obtain⟨m,o,hp,o2,hg,ho2,hc⟩:=wOf_some hy
   cases hp
   rcases hc with⟨_,_,_,_,he,rfl⟩|⟨_,_,he,_⟩
   ·exact h.upd hid h1 (by rw [hlen];exact hln id _ hg) hg hE (fun e cs he=>by cases he) (hkp _)
   ·cases he
  |y'=>
   obtain⟨m,o,hp,o2,hg,ho2,hc⟩:=wOf_some hy
   cases hp
   rcases hc with⟨_,_,_,_,he,_⟩|⟨l,m2,he,rfl⟩
   ·cases he
   ·cases he
    have h2:m2=(ρ2 id).ln:=hln id _ hg
    refine h.upd hid h1 (by rw [hlen];rfl) ?_ hE (fun e cs he=>by cases he) (hkp _)
    show H2[id]? =some (.br (ρ2 id).ln v)
    rw [←h2];exact hg
  |_=>cases hy
 ·cases hr
theorem PI.step(h:PI n0 H2 ρ ρ2 ρ3 F2 E H0 al Fm H1 done)(hln:Lns ρ2 H2)(hbr:Brk H2)(hn0:H0.length≤n0)(hup:Up n0 ρ2 ρ3)(hf:∀t u,(at2 t).v ρ2=some u→F2 t=u){k:Key}{v:k.ty.T}{sk:List Src}(hr:k.rd ix at2 H2=some (v,sk))
  (hk:KC n0 H0 E al ix k) (had:∀(j:Nat) (s:Src),sk[j]? =some s→ρ3 (H1.length+j)=s.ad ρ2):PI n0 H2 ρ ρ2 ρ3 F2 E H0 al (k.put ix (Fm,H1) v).1 (k.put ix (Fm,H1) v).2 (done++sk):=by
 cases k with
 |s' t x=>exact h.stepS hln hbr hn0 hf hr had
 |o' t off x=>exact h.stepO hln hbr hn0 hup hr hk.1 hk.2 had
 |w' t x=>exact h.stepW hln hbr hn0 hup hr hk.1 hk.2.1 hk.2.2.1 hk.2.2.2
theorem PI.steps(hln:Lns ρ2 H2)(hbr:Brk H2)(hn0:H0.length≤n0)(hup:Up n0 ρ2 ρ3)(hf:∀t u,(at2 t).v ρ2=some u→F2 t=u):∀(J:List Key) (Fm:Tr SV) (H1:List Ob) (done:List Src) (v:(keyT J).T) (ss:List Src),PI n0 H2 ρ ρ2 ρ3 F2 E H0 al Fm H1 done→rdK ix at2 H2 J=some (v,ss)→
  (∀k∈J,KC n0 H0 E al ix k)→(∀(j:Nat) (s:Src),ss[j]? =some s→ρ3 (H1.length+j)=s.ad ρ2)→PI n0 H2 ρ ρ2 ρ3 F2 E H0 al (putK ix (Fm,H1) J v).1 (putK ix (Fm,H1) J v).2 (done++ss)
 |[],Fm,H1,done,v,ss,h,hr,_,_=>by
  cases hr
  rw [zam];exact h
 |[k],Fm,H1,done,v,ss,h,hr,hk,had=>h.step hln hbr hn0 hup hf hr (hk k zak) had
 |k::k2::l,Fm,H1,done,v,ss,h,hr,hk,had=>by
  simp only [rdK]at hr
  split at hr
  ·rename_i x s1 hx
   split at hr
   ·rename_i y s2 hy
    cases hr
    have h1:=h.step hln hbr hn0 hup hf hx (hk k zak) (fun j s hj=>had j s (by rw [List.getElem?_append_left (List.getElem?_eq_some_iff.1 hj).1];exact hj))
    have h2:=PI.steps hln hbr hn0 hup hf (k2::l) _ _ _ y s2 h1 hy (fun k3 h3=>hk k3 (zaf _ h3)) (fun j s hj=>by
     have e1:=h1.len
     have e2:=h.len
     rw [zab]at e1
     rw [show(k.put ix (Fm,H1) x).2.length+j=H1.length+(s1.length+j)by omega]
     exact had _ s (by rw [List.getElem?_append_right (by omega),←hj];congr 1;omega))
    rw [zal]at h2
    exact h2
   ·cases hr
  ·cases hr
end
open Go.Wk
open Go.Ce (Tr)
open List renaming append_assoc → zal, mem_append_right → zaY, mem_cons_self → zak
open Nat renaming succ → zbk, zero_le → zah
theorem rd0_kn:∀(t:Ty) (l:List SC) (x:t.T) (r:List SC),t.rd0 l=some (x,r)→∃us,l=us++r∧∀c∈us,c.kn=true:=by
 intro t
 induction t with
 |w' t ih=>intro l x r h;exact ih l x r h
 |pr a b iha ihb=>
  intro l x r h
  simp only [Ty.rd0]at h
  split at h
  ·rename_i y1 l1 hp
   split at h
   ·rename_i y2 l2 hq
    cases h
    obtain⟨us,h1,h2⟩:=iha l y1 l1 hp
    obtain⟨ws,h3,h4⟩:=ihb l1 y2 _ hq
    exact⟨us++ws,by rw [h1,h3,zal],fun c hc=>(List.mem_append.1 hc).elim (h2 c) (h4 c)⟩
   ·cases h
  ·cases h
 |i' k=>
  intro l x r h
  cases l with
  |nil=>cases h
  |cons c l=>
   simp only [Ty.rd0]at h
   split at h
   ·rename_i y hy;cases h;exact⟨[c],rfl,fun c2 h=>by rw [List.mem_singleton.1 h];cases c<;>first|rfl|cases hy⟩
   ·cases h
 |c'=>
  intro l x r h
  cases l with
  |nil=>cases h
  |cons c l=>
   simp only [Ty.rd0]at h
   split at h
   ·rename_i y hy;cases h;exact⟨[c],rfl,fun c2 h=>by rw [List.mem_singleton.1 h];cases c<;>first|rfl|cases hy⟩
   ·cases h
 |s'=>
  intro l x r h
  cases l with
  |nil=>cases h
  |cons c l=>
   simp only [Ty.rd0]at h
   split at h
   ·rename_i y hy;cases h;exact⟨[c],rfl,fun c2 h=>by rw [List.mem_singleton.1 h];cases c<;>first|rfl|cases hy⟩
   ·cases h
 |b'=>
  intro l x r h
  cases l with
  |nil=>cases h
  |cons c l=>
   simp only [Ty.rd0]at h
   split at h
   ·rename_i y hy;cases h;exact⟨[c],rfl,fun c2 h=>by rw [List.mem_singleton.1 h];cases c<;>first|rfl|cases hy⟩
   ·cases h
 |_=>intro l x r h;cases h
theorem rdAll_kn{t:Ty}:∀{m:Nat} {l:List SC} {xs:List t.T},rdAll t m l=some xs→∀c∈l,c.kn=true
 |0,l,xs,h=>by
  cases l with
  |nil=>intro c hc;cases hc
  |cons c l=>cases h
 |m+1,l,xs,h=>by
  simp only [rdAll]at h
  split at h
  ·rename_i y l1 hp
   split at h
   ·rename_i q hq
    cases h
    obtain⟨us,h1,h2⟩:=rd0_kn t l y l1 hp
    intro c hc
    rw [h1]at hc
    exact(List.mem_append.1 hc).elim (h2 c) (rdAll_kn hq c)
   ·cases h
  ·cases h
theorem Mat.all{ρ:Nat→Ad}{cs:List SC}{vs:List Value}(h:Mat ρ cs vs)(hk:∀c∈cs,c.kn=true):vs=cs.map (SC.v ρ):=by
 apply List.ext_getElem?
 intro j
 rw [List.getElem?_map]
 by_cases hj:j<cs.length
 ·rw [h.2 j _ (List.getElem?_eq_getElem hj) (hk _ (List.getElem_mem hj)),List.getElem?_eq_getElem hj];rfl
 ·have:=h.1
  rw [List.getElem?_eq_none (l:=vs) (by omega),List.getElem?_eq_none (l:=cs) (by omega)];rfl
theorem Mat.of{ρ:Nat→Ad}{cs:List SC}:Mat ρ cs (cs.map (SC.v ρ)):=⟨by simp,fun j c h _=>by rw [List.getElem?_map,h];rfl⟩
section
variable {w0 w : World} {S0 : List Nat} {ρ : Nat → Ad} {H : List Ob} {L : List Res}
theorem Mt.lns(h:Mt w0 S0 ρ H L):Lns ρ H:=fun id o ho=>(h.2 id o ho).1
theorem Mt.brk(h:Mt w0 S0 ρ H L)(hH:Hp w0 S0 L w):Brk H:=fun id m x hx=>by
 obtain⟨_,r,hr,he⟩:=h.2 id _ hx
 have he:r=brow _ m x:=he
 subst he
 exact hH.browlen id hr
end
def nores:Res:=⟨none,fun _=>True⟩
def Src.ow:Src→Option Nat
 |.o' id w=>bif w then some id else none
 |.k' id _ w=>bif w then some id else none
 |_=>none
theorem ow_own(s:Src):s.own=s.ow.toList:=by
 cases s with
 |o' id w=>cases w<;>rfl
 |k' id m w=>cases w<;>rfl
 |_=>rfl
theorem ow_mem{ss:List Src}{j i:Nat}{s:Src}(h:ss[j]? =some s)(ho:s.ow=some i):i∈ownS ss:=by
 induction ss generalizing j with
 |nil=>simp at h
 |cons a l ih=>
  show i∈a.own++ownS l
  cases j with
  |zero=>
   have:a=s:=by simpa using h
   subst this
   rw [ow_own,ho];simp
  |succ j=>exact zaY _ (ih (by simpa using h))
theorem ow_inj{ss:List Src}(hn:(ownS ss).Nodup){j k i:Nat}{s s2:Src}(h:ss[j]? =some s)(ho:s.ow=some i)(h2:ss[k]? =some s2)(ho2:s2.ow=some i):j=k:=by
 induction ss generalizing j k with
 |nil=>simp at h
 |cons a l ih=>
  have hn:(a.own++ownS l).Nodup:=hn
  have hd:=List.nodup_append.1 hn
  cases j with
  |zero=>
   cases k with
   |zero=>rfl
   |succ k=>
    have:a=s:=by simpa using h
    subst this
    exact absurd rfl (hd.2.2 i (by rw [ow_own,ho];simp) i (ow_mem (by simpa using h2) ho2))
  |succ j=>
   cases k with
   |zero=>
    have:a=s2:=by simpa using h2
    subst this
    exact absurd rfl (hd.2.2 i (by rw [ow_own,ho2];simp) i (ow_mem (by simpa using h) ho))
   |succ k=>exact congrArg zbk (ih hd.2.1 (show l[j]? =some s by simpa using h) (show l[k]? =some s2 by simpa using h2))
theorem list_of{p:Nat→Res→Prop}:∀(n:Nat),(∀j,j<n→∃r,p j r)→∃L:List Res,L.length=n∧∀(j:Nat) (r:Res),L[j]? =some r→p j r
 |0,_=>⟨[],rfl,fun j r h=>by simp at h⟩
 |n+1,h=>by
  obtain⟨L,h1,h2⟩:=list_of n fun j hj=>h j (by omega)
  obtain⟨r,hr⟩:=h n (by omega)
  refine⟨L++[r],by simp [h1],fun j r2 hj=> ?_⟩
  by_cases hl:j<n
  ·rw [List.getElem?_append_left (by omega)]at hj;exact h2 j r2 hj
  ·rw [List.getElem?_append_right (by omega)]at hj
   have:j-L.length=0:=by
    have:=(List.getElem?_eq_some_iff.1 hj).1
    simp at this;omega
   rw [this]at hj
   have e:r=r2:=by simpa using hj
   subst e
   rw [show j=n by omega];exact hr
theorem sok_ro{w0 w:World}{S0:List Nat}{ρ2 ρ3:Nat→Ad}{H2:List Ob}{L:List Res}(hH:Hp w0 S0 L w)(hM:Mt w0 S0 ρ2 H2 L){s:Src}{o:Ob}{k:Nat}(h:SOk false ρ2 H2 ρ3 s o)(hk:ρ3 k=s.ad ρ2):
  ∃r,RO w0 S0 ρ3 k o r∧r.holds w∧∀b,r.own=some b→∃i ri,s.ow=some i∧L[i]? =some ri∧ri.own=some b:=by
 cases o with
 |bl e cs2=>
  obtain⟨id,cs,rfl,h1,h2,h3,h4⟩:=h
  obtain⟨_,r,hr,vs,rfl,hm⟩:=hM.2 id _ h1
  refine⟨blk (ρ3 k).b vs e,⟨vs,rfl, ?_⟩, ?_,fun b hb=>⟨id,_,rfl,hr, ?_⟩⟩
  ·have e1:vs=cs2.map (SC.v ρ3):=(hm.all h3).trans h2
   rw [e1];exact Mat.of
  ·rw [hk];exact(hH.res _ (List.mem_of_getElem? hr)).1
  ·rw [hk]at hb;exact hb
 |rw e b t l=>
  rcases h with⟨id,rfl,h1⟩|⟨rfl,rfl⟩|⟨id,m,cs,rfl,h1,h2,h3,h4⟩
  ·obtain⟨_,r,hr,he⟩:=hM.2 id _ h1
   have he:r=rwt t.enc e t.sz (ρ2 id).o (ρ2 id).a (ρ2 id).cap l:=he
   subst he
   refine⟨rwt t.enc e t.sz (ρ3 k).o (ρ3 k).a (ρ3 k).cap l,rfl, ?_,fun b hb=>⟨id,_,rfl,hr, ?_⟩⟩
   ·rw [hk];exact(hH.res _ (List.mem_of_getElem? hr)).1
   ·rw [hk]at hb;exact hb
  ·have:=(hH.nilrw t.enc e t.sz none).res _ zak
   refine⟨rwt t.enc e t.sz (ρ3 k).o (ρ3 k).a (ρ3 k).cap [],rfl, ?_,fun b hb=> ?_⟩
   ·rw [hk];exact this.1
   ·rw [hk]at hb;cases hb
  ·obtain⟨_,r,hr,vs,rfl,hm⟩:=hM.2 id _ h1
   have hx:=asn h2
   have hvs:=hm.all (rdAll_kn h2)
   have hml:m≤maxLen:=by unfold maxLen;omega
   have hB:=hH.blkrw (f:=t.enc) id t.sz m l hr (Ty.encOk h3) (by rw [hvs,hx.2.2]) hx.1 hml
   have hlt:=(List.getElem?_eq_some_iff.1 hr).1
   have hmem:=hB.res _ (List.mem_of_getElem? (i:=id) (by rw [List.getElem?_set];simp [hlt];rfl))
   refine⟨rwt t.enc e t.sz (ρ3 k).o (ρ3 k).a (ρ3 k).cap l,rfl, ?_,fun b hb=>⟨id,_,rfl,hr, ?_⟩⟩
   ·rw [hk];exact hmem.1
   ·rw [hk]at hb;exact hb
 |ro t l=>
  rcases h with⟨id,rfl,h1⟩|⟨rfl,rfl⟩|⟨h,_⟩
  ·obtain⟨_,r,hr,hn,he⟩:=hM.2 id _ (roOf_some h1)
   refine⟨nores,⟨rfl, ?_⟩,trivial,fun b hb=>by cases hb⟩
   rw [hk];exact he
  ·refine⟨nores,⟨rfl, ?_⟩,trivial,fun b hb=>by cases hb⟩
   rw [hk]
   exact⟨Rd.nil _ _,fun h=>absurd rfl h,zah _⟩
  ·cases h
 |br n l=>
  obtain⟨rfl,id,m,rfl,h1⟩:=h
  obtain⟨_,r,hr,he⟩:=hM.2 id _ h1
  have he:r=brow (.slice (ρ2 id).a m (ρ2 id).cap) m l:=he
  subst he
  have hl:=hH.browlen id hr
  refine⟨brow (.slice (ρ3 k).a l.length (ρ3 k).cap) l.length l,rfl, ?_,fun b hb=>⟨id,_,rfl,hr, ?_⟩⟩
  ·rw [hk,hl];exact(hH.res _ (List.mem_of_getElem? hr)).1
  ·rw [hk,hl]at hb;exact hb
 |dd n=>exact⟨nores,trivial,trivial,fun b hb=>by cases hb⟩
theorem bo_ro{w0 w:World}{S0:List Nat}{ρ2 ρ3:Nat→Ad}{H2:List Ob}{L:List Res}(hH:Hp w0 S0 L w)(hM:Mt w0 S0 ρ2 H2 L){o:Ob}{k:Nat}(h:BO H2 ρ2 ρ3 k o)(hk:ρ3 k=ρ2 k)(hd:∀m,o≠.dd m):
  ∃r,L[k]? =some r∧RO w0 S0 ρ3 k o r∧r.holds w:=by
 cases o with
 |bl e cs=>
  obtain⟨cs2,h1,h2,h3⟩:=h
  obtain⟨_,r,hr,vs,rfl,hm⟩:=hM.2 k _ h1
  refine⟨_,hr,⟨vs,by rw [hk],by rw [hm.1,h2],fun j c hj hc=> ?_⟩,(hH.res _ (List.mem_of_getElem? hr)).1⟩
  obtain⟨c2,h4,h5,h6⟩:=h3 j c hj hc
  rw [←h6];exact hm.2 j c2 h4 h5
 |rw e b t l=>
  obtain⟨_,r,hr,he⟩:=hM.2 k _ h
  exact⟨r,hr,by show r=_;rw [hk];exact he,(hH.res _ (List.mem_of_getElem? hr)).1⟩
 |ro t l=>
  obtain⟨_,r,hr,hn,he⟩:=hM.2 k _ h
  exact⟨r,hr,⟨hn,by rw [hk];exact he⟩,(hH.res _ (List.mem_of_getElem? hr)).1⟩
 |br n l=>
  obtain⟨_,r,hr,he⟩:=hM.2 k _ h
  exact⟨r,hr,by show r=_;rw [hk];exact he,(hH.res _ (List.mem_of_getElem? hr)).1⟩
 |dd n=>exact absurd rfl (hd n)
def isDd:Ob→Bool
 |.dd _=>true
 |_=>false
theorem isDd_f{o:Ob}(h:isDd o=false):∀m,o≠.dd m:=by
 intro m e;subst e;cases h
theorem PI.mem{w0 w:World}{S0:List Nat}{n0:Nat}{H2 H0 H1:List Ob}{ρ ρ2 ρ3:Nat→Ad}{F2:Nat→Value}{E:List Nat}{al:List Rg}{Fm:Tr SV}{done:List Src}{L:List Res}(h:PI n0 H2 ρ ρ2 ρ3 F2 E H0 al Fm H1 done)(hH:Hp w0 S0 L w)(hM:Mt w0 S0 ρ2 H2 L)(hup:Up n0 ρ2 ρ3)
  (had:∀(j:Nat) (s:Src),done[j]? =some s→ρ3 (n0+j)=s.ad ρ2) (hn:(ownS done).Nodup) (hE:∀id∈ownS done,id<n0→id∈E):∃L3,Hp w0 S0 L3 w∧Mt w0 S0 ρ3 H1 L3:=by
 let src:Nat→Option Nat:=fun j=>if j<n0 then(match H1[j]? with
  |some o=>bif isDd o then none else some j
  |none=>none)else(done[j-n0]?).bind Src.ow
 have hp:∀j,j<H1.length→∃r,(∀o,H1[j]? =some o→RO w0 S0 ρ3 j o r)∧r.holds w∧∀b,r.own=some b→∃i ri,src j=some i∧L[i]? =some ri∧ri.own=some b:=by
  intro j hj
  have ho:=List.getElem?_eq_getElem hj
  by_cases hlt:j<n0
  ·cases hd:isDd H1[j]with
   |true=>
    refine⟨nores,fun o h2=> ?_,trivial,fun b hb=>by cases hb⟩
    rw [ho]at h2
    cases h2
    cases hx:H1[j]<;>rw [hx]at hd<;>first|trivial|cases hd
   |false=>
    obtain⟨r,h1,h2,h3⟩:=bo_ro hH hM (h.ba j _ hlt ho) (hup j hlt) (isDd_f hd)
    refine⟨r,fun o h4=> ?_,h3,fun b hb=>⟨j,r, ?_,h1,hb⟩⟩
    ·rw [ho]at h4;cases h4;exact h2
    ·simp only [src,hlt,if_true,ho,hd,cond_false]
  ·have hl:=h.len
   have hs:done[j-n0]? =some (done[j-n0]'(by omega)):=List.getElem?_eq_getElem (by omega)
   have ho2:H1[n0+(j-n0)]? =some H1[j]:=by rw [show n0+(j-n0)=j by omega];exact ho
   have hadj:=had _ _ hs
   rw [show n0+(j-n0)=j by omega]at hadj
   obtain⟨r,h1,h2,h3⟩:=sok_ro hH hM (h.nw _ _ _ hs ho2) hadj
   refine⟨r,fun o h4=> ?_,h2,fun b hb=> ?_⟩
   ·rw [ho]at h4;cases h4;exact h1
   ·obtain⟨i,ri,h5,h6⟩:=h3 b hb
    refine⟨i,ri, ?_,h6⟩
    simp only [src,hlt,if_false,hs]
    exact h5
 obtain⟨L3,hl3,hr3⟩:=list_of H1.length hp
 refine⟨L3,Go.Oe.Hp.pick ((List.range H1.length).map src) hH (fun j r hj=> ?_) (fun j k i hj hk=> ?_),hl3,fun id o ho=>⟨h.ln id o ho, ?_⟩⟩
 ·obtain⟨_,h2,h3⟩:=hr3 j r hj
  refine⟨h2,fun b hb=> ?_⟩
  obtain⟨i,ri,h4,h5⟩:=h3 b hb
  have hlt:=(List.getElem?_eq_some_iff.1 hj).1
  refine⟨i,ri, ?_,h5⟩
  rw [List.getElem?_map,List.getElem?_range (by omega)]
  exact congrArg some h4
 ·have key:∀j,((List.range H1.length).map src)[j]? =some (some i)→j<H1.length∧src j=some i:=by
   intro j hj
   rw [List.getElem?_map]at hj
   by_cases hlt:j<H1.length
   ·rw [List.getElem?_range hlt]at hj
    exact⟨hlt,Option.some.inj hj⟩
   ·rw [List.getElem?_eq_none (by simp;omega)]at hj;cases hj
  obtain⟨hj1,hj2⟩:=key j hj
  obtain⟨hk1,hk2⟩:=key k hk
  have base:∀j,j<n0→src j=some i→j=i∧∃o,H1[j]? =some o∧isDd o=false:=by
   intro j hlt hs
   simp only [src,hlt,if_true]at hs
   split at hs
   ·rename_i o ho
    cases hd:isDd o with
    |true=>rw [hd]at hs;cases hs
    |false=>rw [hd]at hs;exact⟨Option.some.inj hs,o,ho,hd⟩
   ·cases hs
  have nw:∀j,¬j<n0→src j=some i→∃s,done[j-n0]? =some s∧s.ow=some i:=by
   intro j hlt hs
   simp only [src,hlt,if_false]at hs
   cases hd:done[j-n0]? with
   |none=>rw [hd]at hs;cases hs
   |some s=>rw [hd]at hs;exact⟨s,rfl,hs⟩
  have no:∀j k,j<n0→¬k<n0→src j=some i→src k=some i→False:=by
   intro j k h1 h2 h3 h4
   obtain⟨rfl,o,h5,h6⟩:=base j h1 h3
   obtain⟨s,h7,h8⟩:=nw k h2 h4
   obtain⟨m,hm⟩:=h.de j h1 (hE j (ow_mem h7 h8) h1)
   rw [hm]at h5
   cases h5
   cases h6
  by_cases h1:j<n0<;>by_cases h2:k<n0
  ·rw [(base j h1 hj2).1,(base k h2 hk2).1]
  ·exact(no j k h1 h2 hj2 hk2).elim
  ·exact(no k j h2 h1 hk2 hj2).elim
  ·obtain⟨s,h7,h8⟩:=nw j h1 hj2
   obtain⟨s2,h9,h10⟩:=nw k h2 hk2
   have:=ow_inj hn h7 h8 h9 h10
   omega
 ·have hlt:=(List.getElem?_eq_some_iff.1 ho).1
  exact⟨_,List.getElem?_eq_getElem (by omega),(hr3 id _ (List.getElem?_eq_getElem (by omega))).1 o ho⟩
open Go.Wk
open Go.Ce (Tr)
open List renaming mem_append_right → zaY, mem_cons_of_mem → zaf, mem_cons_self → zak, nil_append → zax
open Nat renaming le_of_ble_eq_true → zaG, le_refl → zao, one_pos → zbq
open Option renaming map_some → zaU
theorem rgK_of{ix:Nat→Nat}:∀{J:List Key} {q:Rg},q∈rgK ix J→∃k∈J,(∃t off x,k=.o' t off x∧q=(ix t,off,off+x.cn))∨∃t x,k=.w' t x∧q=(ix t,0,1)
 |k::J,q,h=>by
  cases k with
  |s' t x=>
   obtain⟨k2,h1,h2⟩:=rgK_of (show q∈rgK ix J from h)
   exact⟨k2,zaf _ h1,h2⟩
  |o' t off x=>
   rcases List.mem_cons.1 (show q∈(ix t,off,off+x.cn)::rgK ix J from h)with rfl|h
   ·exact⟨_,zak,.inl ⟨t,off,x,rfl,rfl⟩⟩
   ·obtain⟨k2,h1,h2⟩:=rgK_of h
    exact⟨k2,zaf _ h1,h2⟩
  |w' t x=>
   rcases List.mem_cons.1 (show q∈(ix t,0,1)::rgK ix J from h)with rfl|h
   ·exact⟨_,zak,.inr ⟨t,x,rfl,rfl⟩⟩
   ·obtain⟨k2,h1,h2⟩:=rgK_of h
    exact⟨k2,zaf _ h1,h2⟩
theorem rgK_o{ix:Nat→Nat}{t off:Nat}{x:Ty}:∀{J:List Key},Key.o' t off x∈J→(ix t,off,off+x.cn)∈rgK ix J
 |k::J,h=>by
  rcases List.mem_cons.1 h with rfl|h2
  ·exact zak
  ·cases k with
   |s' _ _=>exact(show _∈rgK ix J from rgK_o h2)
   |o' _ _ _=>exact zaf _ (rgK_o h2)
   |w' _ _=>exact zaf _ (rgK_o h2)
theorem rgK_w{ix:Nat→Nat}{t:Nat}{x:Ty}:∀{J:List Key},Key.w' t x∈J→(ix t,0,1)∈rgK ix J
 |k::J,h=>by
  rcases List.mem_cons.1 h with rfl|h2
  ·exact zak
  ·cases k with
   |s' _ _=>exact(show _∈rgK ix J from rgK_w h2)
   |o' _ _ _=>exact zaf _ (rgK_w h2)
   |w' _ _=>exact zaf _ (rgK_w h2)
theorem chkK_of{S:St}:∀{J:List Key},chkK S J=true→∀k∈J,match k with
  |.o' t off x=>∃e cs,S.H[S.ix t]? =some (.bl e cs)∧off+x.cn≤cs.length
  |.w' t _=>apn S.H[S.ix t]? =true
  |.s' _ _=>True
 |k::J,h,k2,hk=>by
  simp only [chkK]at h
  have h:=agp h
  rcases List.mem_cons.1 hk with rfl|hk
  ·cases k2 with
   |s' _ _=>trivial
   |o' t off x=>
    have h1:=h.1
    simp only [abm]at h1
    split at h1
    ·rename_i e cs hc
     exact⟨e,cs,hc,zaG h1⟩
    ·cases h1
   |w' t x=>
    have h1:=h.1
    simp only [abm]at h1
    exact h1
  ·exact chkK_of h.2 k2 hk
theorem awp{H:List Ob}:∀{l:List SC} {id:Nat},id∈rowsC H l→apn H[id]? =true∨∃e cs,H[id]? =some (.bl e cs)
 |x::l,id,h=>by
  cases x
  case l' i=>
   simp only [rowsC]at h
   cases hr:apn (ams H i)with
   |true=>
    rw [hr]at h
    rcases List.mem_cons.1 h with rfl|h
    ·rw [abm]at hr;exact .inl hr
    ·exact awp h
   |false=>rw [hr]at h;exact awp h
  case k' i n=>
   simp only [rowsC]at h
   split at h
   ·rename_i e cs hc
    rcases List.mem_cons.1 h with rfl|h
    ·rw [abm]at hc;exact .inr ⟨e,cs,hc⟩
    ·exact awp h
   ·exact awp h
  all_goals exact awp (l:=l) h
theorem eatK_of{ix:Nat→Nat}{F:Nat→SV}{H:List Ob}:∀{J:List Key} {id:Nat},id∈eatK ix F H J→apn H[id]? =true∨∃e cs,H[id]? =some (.bl e cs)
 |k::J,id,h=>by
  simp only [eatK]at h
  rcases List.mem_append.1 h with h|h
  ·cases k with
   |s' t x=>
    simp only at h
    cases hx:x.hasR with
    |false=>rw [hx]at h;cases h
    |true=>
     rw [hx]at h
     simp only [cond_true]at h
     split at h
     ·exact awp h
     ·cases h
   |o' t off x=>
    simp only at h
    cases hx:x.hasR with
    |false=>rw [hx]at h;cases h
    |true=>
     rw [hx]at h
     simp only [cond_true]at h
     split at h
     ·split at h
      ·exact awp h
      ·cases h
     ·cases h
   |w' t x=>cases h
  ·exact eatK_of h
theorem disR_of:∀{a b:List Rg},disR (a++b)=true→∀q∈a,∀r∈b,q.1=r.1→q.2.2≤r.2.1∨r.2.2≤q.2.1
 |x::a,b,h,q,hq,r,hr,he=>by
  have h:(bif disR.disQ x (a++b)then disR (a++b)else false)=true:=h
  have h:=agp h
  rcases List.mem_cons.1 hq with rfl|hq
  ·have key:∀l:List Rg,disR.disQ q l=true→r∈l→q.2.2≤r.2.1∨r.2.2≤q.2.1:=by
    intro l
    induction l with
    |nil=>intro _ h;cases h
    |cons y l ih=>
     intro h hm
     simp only [disR.disQ,beqN,bleN,Bool.cond_decide]at h
     rcases List.mem_cons.1 hm with rfl|hm
     ·rw [if_pos he]at h
      by_cases h1:q.2.2≤r.2.1
      ·exact .inl h1
      ·rw [if_neg h1]at h
       by_cases h2:r.2.2≤q.2.1
       ·exact .inr h2
       ·rw [if_neg h2]at h;cases h
     ·refine ih ?_ hm
      split at h
      ·split at h
       ·exact h
       ·split at h
        ·exact h
        ·cases h
      ·exact h
   exact key _ h.1 (zaY _ hr)
  ·exact disR_of h.2 q hq r hr he
theorem tkI_of{n:Nat}{e:List Nat}:∀{l:List Nat},tk.tkI n e l=true→∀id∈l,id<n→id∈e
 |x::l,h,id,hi,hlt=>by
  simp only [tk.tkI]at h
  have h:=agp h
  rcases List.mem_cons.1 hi with rfl|hi
  ·have h1:=h.1
   rw [bleN]at h1
   have:¬n≤id:=by omega
   simp only [this,decide_false,cond_false]at h1
   exact aiw.1 h1
  ·exact tkI_of h.2 id hi hlt
theorem Fgt.len{rs:List Rg}{id:Nat}{o o2:Ob}(h:Fgt rs id o o2):o2.len=o.len:=by
 cases o with
 |bl e cs=>obtain⟨cs2,rfl,_⟩:=h;rfl
 |_=>
  rcases h with⟨rfl,_⟩|⟨rfl,_⟩
  ·rfl
  ·rfl
noncomputable def St.base(S:St)(J:List Key)(w:List Nat):Fr:=(del S.F w,kill (aqm S.H (rgK S.ix J)) (S.eat J))
structure OkJ (S:St) (J:List Key):Prop where
 oks:S.oks (S.rgs J)=true
 dis:disR (S.rgs J)=true
 chk:chkK S J=true
theorem okJ_of{S:St}{J:List Key}(h:S.okJ J=true):OkJ S J:=by
 unfold St.okJ at h
 have h1:=agp h
 have h2:=agp h1.2
 have h3:=agp h2.2
 exact⟨h1.1,h2.1,h3.2⟩
section
variable {C : Cx} {w0 w w2 : World} {S0 : List Nat} {ρ ρ2 ρ3 : Nat → Ad} {S S2 : St} {F F2 : Nat → Value} {J : List Key} {wl : List Nat}
theorem rel_lns{w:World}(h:Rel C w0 S0 ρ S F w):Lns ρ S.H:=by
 obtain⟨L,_,hM⟩:=h.mem
 exact hM.lns
theorem rel_brk{w:World}(h:Rel C w0 S0 ρ S F w):Brk S.H:=by
 obtain⟨L,hH,hM⟩:=h.mem
 exact hM.brk hH
theorem PI.baseG{H H2:List Ob}{R:List Rg}{E:List Nat}{Fm:Tr SV}(hln:Lns ρ H)(hho:∀(id e:Nat) (cs:List SC),H[id]? =some (.bl e cs)→∀c∈cs,c.ok H.length)
  (keyQ:∀q∈R,(∃e cs,H[q.1]? =some (.bl e cs)∧q.2.2≤cs.length)∨(apn H[q.1]? =true∧q.2=(0,1))) (eatQ:∀id∈E,apn H[id]? =true∨∃e cs,H[id]? =some (.bl e cs))
  (hle:Le H.length (R++aok H E) ρ H ρ2 H2) (hup:Up H.length ρ ρ3) (hfr:∀t u,(gtF Fm t).v ρ3=some u→F2 t=u) (hfo:∀t,(gtF Fm t).ok H.length):
  PI H.length H2 ρ ρ2 ρ3 F2 E H (R++aok H E) Fm (kill (aqm H R) E) []:=by
 have hlen:(kill (aqm H R) E).length=H.length:=by rw [aws,awh]
 have get:∀(id:Nat) (o:Ob),H[id]? =some o→∃o2,(aqm H R)[id]? =some o2∧Fgt R id o o2∧(kill (aqm H R) E)[id]? =if id∈E then some (.dd o.len)else some o2:=by
  intro id o ho
  obtain⟨o2,h1,h2⟩:=asi (rs:=R) ho
  refine⟨o2,h1,h2, ?_⟩
  rw [anx,h1,zaU,h2.len]
 have some0:∀(id:Nat) (o2:Ob),(kill (aqm H R) E)[id]? =some o2→∃o,H[id]? =some o:=by
  intro id o2 h
  have:=(List.getElem?_eq_some_iff.1 h).1
  exact⟨_,List.getElem?_eq_getElem (by omega)⟩
 have covE:∀{id j:Nat},cov id j (R++aok H E)=true→cov id j R=true∨id∈E:=by
  intro id j h
  rcases aia.1 h with h|h
  ·exact .inl h
  ·obtain⟨q,hq,h1,_⟩:=afs.1 h
   obtain⟨id2,h2,rfl⟩:=wholeL_of hq
   exact .inr (h1▸h2)
 have covK:∀{id j:Nat},cov id j R=true→cov id j (R++aok H E)=true:=fun h=>aia.2 (.inl h)
 have covW:∀{id j:Nat},cov id j (aok H E)=true→cov id j (R++aok H E)=true:=fun h=>aia.2 (.inr h)
 refine⟨by rw [hlen];rfl,hfr,fun t=>by rw [hlen];exact hfo t,fun id e cs ho c hc=> ?_,fun id o ho=> ?_,fun id o hi ho=> ?_,fun j s o hj=>by simp at hj,fun id hi he=> ?_,fun id o ho=> ?_⟩
 ·rw [hlen]
  obtain⟨o,h0⟩:=some0 id _ ho
  obtain⟨o2,h1,h2,h3⟩:=get id o h0
  rw [h3]at ho
  split at ho
  ·cases ho
  ·cases ho
   cases o with
   |bl e2 cs2=>
    obtain⟨cs3,h4,h5,h6⟩:=h2
    cases h4
    obtain⟨j,hj⟩:=List.mem_iff_getElem?.1 hc
    rw [h6]at hj
    split at hj
    ·cases hcj:cs2[j]? with
     |none=>rw [hcj]at hj;cases hj
     |some _=>
      rw [hcj]at hj
      cases hj
      intro i hi;cases hi
    ·exact hho id e cs2 h0 c (List.mem_of_getElem? hj)
   |_=>
    rcases h2 with⟨h2,_⟩|⟨h2,_⟩
    ·cases h2
    ·cases h2
 ·obtain⟨o0,h0⟩:=some0 id _ ho
  obtain⟨o2,h1,h2,h3⟩:=get id o0 h0
  have hlt:=(List.getElem?_eq_some_iff.1 h0).1
  rw [hup id hlt,←hln id o0 h0]
  rw [h3]at ho
  split at ho
  ·cases ho;rfl
  ·cases ho;exact h2.len
 ·obtain⟨o0,h0⟩:=some0 id _ ho
  obtain⟨o2,h1,h2,h3⟩:=get id o0 h0
  rw [h3]at ho
  have hk:=hle.kp id o0 hi h0
  split at ho
  ·cases ho;trivial
  ·rename_i hE
   cases ho
   have hsubc:∀{j:Nat},cov id j ((R++aok H E))=true→cov id j (R)=true:=fun h=>(covE h).resolve_right hE
   cases o0 with
   |bl e cs0=>
    obtain⟨cs,rfl,h5,h6⟩:=h2
    rcases hk with hk|⟨cs2,hk1,hk2,hk3⟩
    ·exfalso
     obtain⟨q,hq,h7,h8,h9⟩:=afs.1 (hsubc (hk cs0.length (zao _)))
     rcases keyQ q hq with⟨e4,cs4,h10,h11⟩|⟨h10,h11⟩
     ·rw [h7,h0]at h10;cases h10;omega
     ·rw [h7,h0]at h10;cases h10
    ·refine⟨cs2,hk1,by rw [hk2,h5],fun j c hj hkn=> ?_⟩
     rw [h6]at hj
     split at hj
     ·cases hcj:cs0[j]? with
      |none=>rw [hcj]at hj;cases hj
      |some _=>rw [hcj]at hj;cases hj;cases hkn
     ·rename_i hnc
      rcases hk3 j c hj with h7|⟨c2,h7,h8⟩
      ·exact absurd (hsubc h7) hnc
      ·refine⟨c2,h7,(h8 hkn).1, ?_⟩
       rw [(h8 hkn).2]
       exact(SC.up hup (hho id e cs0 h0 c (List.mem_of_getElem? hj))).symm
   |rw e b t l=>
    rcases h2 with⟨rfl,h2⟩|⟨rfl,_⟩
    ·rcases hk with hk|hk
     ·obtain⟨q,hq,h7,_⟩:=afs.1 (hsubc hk)
      exact absurd h7 (h2 q hq)
     ·exact hk
    ·trivial
   |br m l=>
    rcases h2 with⟨rfl,h2⟩|⟨rfl,_⟩
    ·rcases hk with hk|hk
     ·obtain⟨q,hq,h7,_⟩:=afs.1 (hsubc hk)
      exact absurd h7 (h2 q hq)
     ·exact hk
    ·trivial
   |ro t l=>
    rcases h2 with⟨rfl,h2⟩|⟨rfl,_⟩
    ·exact hk
    ·trivial
   |dd n=>
    rcases h2 with⟨rfl,h2⟩|⟨rfl,_⟩<;>trivial
 ·obtain⟨o,h0⟩:∃o,H[id]? =some o:=⟨_,List.getElem?_eq_getElem hi⟩
  obtain⟨o2,h1,h2,h3⟩:=get id o h0
  rw [h3,if_pos he]
  exact⟨_,rfl⟩
 ·obtain⟨o2,h1,h2,h3⟩:=get id o ho
  rw [h3]
  by_cases hE:id∈E
  ·rw [if_pos hE]
   cases o with
   |bl e cs=>exact .inl fun j hj=>covW (wholeO_cov ho hE hj)
   |rw e b t l=>exact .inl (covW (ary hE))
   |br m l=>exact .inl (covW (ary hE))
   |ro t l=>
    rcases eatQ id hE with h|⟨_,_,h⟩<;>rw [ho]at h<;>cases h
   |dd n=>
    rcases eatQ id hE with h|⟨_,_,h⟩<;>rw [ho]at h<;>cases h
  ·rw [if_neg hE]
   cases o with
   |bl e cs=>
    obtain⟨cs2,rfl,h5,h6⟩:=h2
    refine .inr ⟨cs2,rfl,h5,fun j c hj=> ?_⟩
    by_cases hc:cov id j (R)=true
    ·exact .inl (covK hc)
    ·exact .inr ⟨c,by rw [h6,if_neg hc];exact hj,fun hk=>⟨hk,SC.up hup (hho id e cs ho c (List.mem_of_getElem? hj))⟩⟩
   |rw e b t l=>
    rcases h2 with⟨rfl,_⟩|⟨rfl,q,hq,rfl⟩
    ·exact .inr rfl
    ·rcases keyQ q hq with⟨e4,cs4,h10,h11⟩|⟨h10,h11⟩
     ·rw [ho]at h10;cases h10
     ·exact .inl (covK (afs.2 ⟨q,hq,rfl,by rw [h11];exact zao _,by rw [h11];exact zbq⟩))
   |br m l=>
    rcases h2 with⟨rfl,_⟩|⟨rfl,q,hq,rfl⟩
    ·exact .inr rfl
    ·rcases keyQ q hq with⟨e4,cs4,h10,h11⟩|⟨h10,h11⟩
     ·rw [ho]at h10;cases h10
     ·exact .inl (covK (afs.2 ⟨q,hq,rfl,by rw [h11];exact zao _,by rw [h11];exact zbq⟩))
   |ro t l=>
    rcases h2 with⟨rfl,_⟩|⟨rfl,q,hq,rfl⟩
    ·rfl
    ·rcases keyQ q hq with⟨e4,cs4,h10,h11⟩|⟨h10,h11⟩<;>rw [ho]at h10<;>cases h10
   |dd n=>
    rcases h2 with⟨rfl,_⟩|⟨rfl,_⟩<;>rfl
theorem PI.base(hS:Rel C w0 S0 ρ S F w)(hJ:OkJ S J)(hle:Le S.H.length (S.rgs J) ρ S.H ρ2 S2.H)(hw:∀t,t∉wl→F2 t=F t)(hup:Up S.H.length ρ ρ3):
  PI S.H.length S2.H ρ ρ2 ρ3 F2 (S.eat J) S.H (S.rgs J) (S.base J wl).1 (S.base J wl).2 []:=by
 refine PI.baseG (rel_lns hS) hS.ho (fun q hq=> ?_) (fun id hid=>eatK_of hid) hle hup (fun t u hu=> ?_) (fun t=> ?_)
 ·obtain⟨k,hk,⟨t,off,x,rfl,rfl⟩|⟨t,x,rfl,rfl⟩⟩:=rgK_of hq
  ·exact .inl (chkK_of hJ.chk _ hk)
  ·exact .inr ⟨chkK_of hJ.chk _ hk,rfl⟩
 ·rw [show(S.base J wl).1=del S.F wl from rfl,del_get]at hu
  split at hu
  ·cases hu
  ·rename_i ht
   rw [hw t ht]
   refine hS.fr t u ?_
   rw [←SV.up hup (hS.fo t)];exact hu
 ·rw [show(S.base J wl).1=del S.F wl from rfl,del_get]
  split
  ·trivial
  ·exact hS.fo t
theorem join_ok(hS:Rel C w0 S0 ρ S F w)(hJ:OkJ S J)(hle:Le S.H.length (S.rgs J) ρ S.H ρ2 S2.H)(hS2:Rel C w0 S0 ρ2 S2 F2 w2)(hw:∀t,t∉wl→F2 t=F t){v:(keyT J).T}(hl:leaf S J S2=some v):
  ∃ρ3,Up S.H.length ρ ρ3∧(∀S3:St,S3.F=(putK S.ix (S.base J wl) J v).1→S3.H=(putK S.ix (S.base J wl) J v).2→Rel C w0 S0 ρ3 S3 F2 w2)∧
   ∀(nb:Nat) (al:List Rg),(∀id j,id<nb→cov id j (S.rgs J)=true→cov id j al=true)→Le nb al ρ S.H ρ3 (putK S.ix (S.base J wl) J v).2:=by
 unfold leaf at hl
 split at hl
 ·rename_i v2 ss hr
  cases htk:tk S J ss with
  |false=>rw [htk]at hl;cases hl
  |true=>
   cases hsub:subR S.H.length (S.rgs J) S2.m with
   |false=>rw [htk,hsub]at hl;cases hl
   |true=>
    rw [htk,hsub]at hl
    cases hl
    have htk:=agp htk
    let ρ3:Nat→Ad:=fun id=>if id<S.H.length then ρ2 id else match ss[id-S.H.length]? with
     |some s=>s.ad ρ2
     |none=>ρ2 id
    have hup2:Up S.H.length ρ2 ρ3:=fun id hi=>by simp only [ρ3,hi,if_true]
    have hup:Up S.H.length ρ ρ3:=hle.up.trans hup2 (zao _)
    have had:∀(j:Nat) (s:Src),ss[j]? =some s→ρ3 (S.H.length+j)=s.ad ρ2:=by
     intro j s hj
     have h1:¬S.H.length+j<S.H.length:=by omega
     have h2:S.H.length+j-S.H.length=j:=by omega
     simp only [ρ3,h1,if_false,h2,hj]
    have h0:=PI.base (wl:=wl) hS hJ hle hw hup
    have hlen:(S.base J wl).2.length=S.H.length:=h0.len
    have hkc:∀k∈J,KC S.H.length S.H (S.eat J) (S.rgs J) S.ix k:=by
     intro k hk
     have hck:=chkK_of hJ.chk k hk
     cases k with
     |s' _ _=>trivial
     |o' t off x=>
      obtain⟨e,cs,h1,h2⟩:=hck
      exact⟨(List.getElem?_eq_some_iff.1 h1).1,fun j h3 h4=>aia.2 (.inl (afs.2 ⟨_,rgK_o hk,rfl,h3,h4⟩))⟩
     |w' t x=>
      have hck:apn S.H[S.ix t]? =true:=hck
      have hlt:S.ix t<S.H.length:=by
       cases h1:S.H[S.ix t]? with
       |none=>rw [h1]at hck;cases hck
       |some _=>exact(List.getElem?_eq_some_iff.1 h1).1
      refine⟨hlt,aia.2 (.inl (afs.2 ⟨_,rgK_w hk,rfl,zao _,zbq⟩)),fun hE=> ?_,hck⟩
      have:=disR_of (show disR (rgK S.ix J++aok S.H (S.eat J))=true from hJ.dis) _ (rgK_w hk) _ (avs hE) rfl
      have h5:0<(wholeO S.H (S.ix t)).2.2:=by
       unfold wholeO
       simp only
       split
       ·exact Nat.succ_pos _
       ·exact zbq
      rcases this with h6|h6
      ·exact absurd h6 (by show¬1≤0;omega)
      ·exact absurd h6 (by show¬_≤0;omega)
    have hP:=PI.steps (rel_lns hS2) (rel_brk hS2) (zao _) hup2 hS2.fr J _ _ [] v ss h0 hr hkc (by rw [hlen];exact had)
    rw [zax]at hP
    obtain⟨L,hH,hM⟩:=hS2.mem
    obtain⟨L3,hH3,hM3⟩:=hP.mem hH hM hup2 had (nodN_iff.1 htk.1) (tkI_of htk.2)
    refine⟨ρ3,hup,fun S3 hF hH'=> ?_,fun nb al hal=> ?_⟩
    ·refine⟨fun g id hg=> ?_,fun t u hu=> ?_,fun t=> ?_, ?_,⟨L3,hH3,by rw [hH'];exact hM3⟩⟩
     ·obtain⟨h1,h2⟩:=hS.gl g id hg
      have:=hP.len
      rw [hH']
      exact⟨by have:(putK S.ix (S.base J wl) J v).2.length=S.H.length+ss.length:=this;omega,by rw [hup id h1];exact h2⟩
     ·rw [St.at_eq,hF]at hu
      exact hP.fr t u hu
     ·rw [St.at_eq,hF,hH']
      exact hP.fo t
     ·rw [hH'];exact hP.ho
    ·refine⟨?_,hup,fun id o hi ho=>(hP.kp id o ho).mono fun j=>hal id j hi⟩
     have:(putK S.ix (S.base J wl) J v).2.length=S.H.length+ss.length:=hP.len
     omega
 ·cases hl
end
open Go.Wk
open Go.Ce (Tr)
open Nat renaming le_refl → zao
section
variable {P : Program} {n : Md} {Q : Exit → Act → World → Prop} {F : Nat → Value} {w : World}
theorem c_fr{c:Code}{F2:Nat→Value}(h:Go.Wk.C P n Q c F w)(e:fr n F2=fr n F):Go.Wk.C P n Q c F2 w:=by
 unfold Go.Wk.C at h⊢
 rw [e];exact h
theorem app_map{f G:Nat→Value}{t:Nat}:∀{l:List Nat},app (l.map fun t=>(t,f t)) G t=if t∈l then f t else G t
 |[]=>by simp [app]
 |x::l=>by
  show upd (app (l.map fun t=>(t,f t)) G) x (f x) t=_
  by_cases h:t=x
  ·subst h;rw [atm];simp
  ·rw [upd_ne _ _ _ _ h,app_map];simp [h]
theorem agrees_map{f:Nat→Value}:∀{l:List Nat},agrees f (l.map fun t=>(t,f t))
 |[]=>trivial
 |x::l=>⟨rfl,agrees_map⟩
theorem fr_congr{F2:Nat→Value}(h:∀t,t<n.n→F2 t=F t):fr n F2=fr n F:=by
 unfold fr
 congr 1
 congr 1
 funext i
 exact h i.val i.isLt
theorem c_loopI{c:Code}(I:Nat→(Nat→Value)→World→Prop)(k0:Nat)(h0:I k0 F w)(round:∀k F w,I k F w→Go.Wk.C P n (Exit.then (fun a' w'=>∃k' F',a'=fr n F'∧k'<k∧I k' F' w') Q) c F w):Go.Wk.C P n Q (.loop c) F w:=by
 refine c_loop (σ:=Nat×(Nat→Value)) (fun s=>(List.range n.n).map fun t=>(t,s.2 t)) (fun s w=>I s.1 s.2 w) (fun s=>s.1) (k0,F) agrees_map h0 fun s w G hI=> ?_
 have e:fr n (app ((List.range n.n).map fun t=>(t,s.2 t)) G)=fr n s.2:=fr_congr fun t ht=>by rw [app_map];simp [ht]
 refine c_fr (c_mono (round s.1 s.2 w hI) fun e a w' h=> ?_) e
 cases e with
 |normal=>
  obtain⟨k',F',h1,h2,h3⟩:=h
  exact⟨(k',F'),F',h1,agrees_map,h3,h2⟩
 |_=>exact h
theorem q_next'{y:Code}(h:Go.Wk.C P n Q y F w):SeqQ P n y Q .normal (fr n F) w:=by
 obtain⟨k,D,ro⟩:=n
 exact q_next h
end
structure Lf (S:St) (ρ:Nat→Ad) (S2:St) (ρ2:Nat→Ad):Prop where
 nb:S2.nb=S.nb
 al:S2.al=S.al
 le:Le S.nb S.al ρ S.H ρ2 S2.H
structure Nx (S:St) (ρ:Nat→Ad) (S2:St) (ρ2:Nat→Ad):Prop extends Lf S ρ S2 ρ2 where
 lg:Le S.H.length S2.m ρ S.H ρ2 S2.H
 mm:∀id j,cov id j S.m=true→cov id j S2.m=true
theorem Lf.refl{S:St}{ρ:Nat→Ad}:Lf S ρ S ρ:=⟨rfl,rfl,Le.refl⟩
theorem Lf.trans{S S2 S3:St}{ρ ρ2 ρ3:Nat→Ad}(h:Lf S ρ S2 ρ2)(h':Lf S2 ρ2 S3 ρ3):Lf S ρ S3 ρ3:=by
 have hl:=h'.le
 rw [h.nb,h.al]at hl
 exact⟨h'.nb.trans h.nb,h'.al.trans h.al,h.le.trans hl⟩
theorem Nx.refl{S:St}{ρ:Nat→Ad}:Nx S ρ S ρ:=⟨Lf.refl,Le.refl,fun _ _ h=>h⟩
theorem Nx.trans{S S2 S3:St}{ρ ρ2 ρ3:Nat→Ad}(h:Nx S ρ S2 ρ2)(h':Nx S2 ρ2 S3 ρ3):Nx S ρ S3 ρ3:=
 ⟨h.toLf.trans h'.toLf,(h.lg.mono (zao _) fun id j _ hc=>h'.mm id j hc).trans (h'.lg.mono h.lg.len fun id j _ hc=>hc),fun id j hc=>h'.mm id j (h.mm id j hc)⟩
def exO:Ex→Exit
 |.nm=>.normal
 |.xt i=>.exit i
def RanC(C:Cx)(md:Md)(c:Code)(F:Nat→Value):Prop:=∀(i d:Nat) (o:Oper),okR1 (avv c) i=true→(avv c)[i]? =some o→o.dst=some d→∃w1 w2,(execOp (evn md F) o).run C.P w1=.ok (.value (F d)) w2
def PureOk(C:Cx)(md:Md):Prop:=∀(w0:World) (S0:List Nat) (ρ:Nat→Ad) (S:St) (F:Nat→Value) (w:World) (op:Op) (v:SV) (H:List Ob) (m:List Rg),Rel C w0 S0 ρ S F w→isPure op=true→opP C (S.ev C) S.H op=some ⟨[],v,H,m⟩→∀w',Val C md ρ S F w' op v
def RegOk(C:Cx)(md:Md)(w0:World)(S0:List Nat)(id:Nat)(ops:Array Oper)(d:Bool):Prop:=∀(ρ':Ty) (S:St) (κ:St→Option ρ'.T) (r:ρ'.T) (ρ:Nat→Ad) (F:Nat→Value) (w:World) (Q:Exit→Act→World→Prop),(bif d then drawnD C ops S κ else opsD C ops.toList ops.toList 0 S κ)=some r→Rel C w0 S0 ρ S F w→
 (∀S2 ρ2 F2 w2,κ S2=some r→Rel C w0 S0 ρ2 S2 F2 w2→Nx S ρ S2 ρ2→(∀t,t∉wrO ops.toList→F2 t=F t)→RanC C md (.region id ops d) F2→Q .normal (fr md F2) w2)→Go.Wk.C C.P md Q (.region id ops d) F w
def RegsOk(C:Cx)(md:Md)(w0:World)(S0:List Nat):Code→Prop
 |.region id ops d=>RegOk C md w0 S0 id ops d
 |.seq a b=>RegsOk C md w0 S0 a∧RegsOk C md w0 S0 b
 |.cond _ a b=>RegsOk C md w0 S0 a∧RegsOk C md w0 S0 b
 |.block _ a=>RegsOk C md w0 S0 a
 |.loop a=>RegsOk C md w0 S0 a
 |.scope a=>RegsOk C md w0 S0 a
 |_=>True
section
variable {C : Cx} {md : Md} {w0 : World} {S0 : List Nat} {τ : Ty} {res : St → Option τ.T}
theorem Rel.same{ρ:Nat→Ad}{S S2:St}{F:Nat→Value}{w:World}(h:Rel C w0 S0 ρ S F w)(hF:S2.F=S.F)(hH:S2.H=S.H):Rel C w0 S0 ρ S2 F w:=by
 have ha:∀t,S2.at t=S.at t:=fun t=>by rw [St.at_eq,St.at_eq,hF]
 refine⟨?_,fun t v hv=>h.fr t v (by rw [←ha];exact hv),fun t=>by rw [ha,hH];exact h.fo t, ?_, ?_⟩
 ·rw [hH];exact h.gl
 ·rw [hH];exact h.ho
 ·rw [hH];exact h.mem
theorem Rel.set{ρ:Nat→Ad}{S:St}{F:Nat→Value}{w:World}(h:Rel C w0 S0 ρ S F w){d:Nat}{v:SV}(hv:∀u,v.v ρ=some u→F d=u)(ho:v.ok S.H.length):Rel C w0 S0 ρ (S.set d v) F w:=by
 refine⟨h.gl,fun t u hu=> ?_,fun t=> ?_,h.ho,h.mem⟩
 ·rw [at_set]at hu
  by_cases e:t=d
  ·rw [if_pos e]at hu;subst e;exact hv u hu
  ·rw [if_neg e]at hu;exact h.fr t u hu
 ·rw [at_set]
  by_cases e:t=d
  ·rw [if_pos e];exact ho
  ·rw [if_neg e];exact h.fo t
theorem again_ok(hp:PureOk C md){c:Code}{ρ:Nat→Ad}{F:Nat→Value}{w:World}(hran:RanC C md c F):∀(R:List Nat) (S:St),okR (avv c) R=true→Rel C w0 S0 ρ S F w→
  Rel C w0 S0 ρ (again C (avv c) R S) F w∧(again C (avv c) R S).H=S.H∧(again C (avv c) R S).nb=S.nb∧(again C (avv c) R S).al=S.al∧(again C (avv c) R S).m=S.m
 |[],S,_,h=>⟨h,rfl,rfl,rfl,rfl⟩
 |i::R,S,hR,h=>by
  simp only [okR]at hR
  have hR:=agp hR
  have stay:=again_ok hp hran R S hR.2 h
  simp only [again]
  split
  ·rename_i o ho
   split
   ·rename_i d hd
    split
    ·rename_i v H m hop
     ·rw [abm]at ho
      obtain⟨w1,w2,hr⟩:=hran i d o hR.1 ho hd
      have h1:=hR.1
      unfold okR1 at h1
      rw [abm,ho]at h1
      simp only [hd]at h1
      have h1:=agp h1
      have h2:=agp h1.2
      obtain⟨hok,u,hu,hx⟩:=hp w0 S0 ρ S F w o.op v H m h h2.1 hop w1
      have hg:o.guard=none:=by
       cases hg:o.guard with
       |none=>rfl
       |some q=>rw [hg]at h1;cases h1.1
      have hu2:u=F d:=by
       have e:o=⟨some d,o.op,o.type,o.pos,o.after,none⟩:=by rw [←hd,←hg]
       have h3:=hx d o.type o.pos o.after
       rw [←e,hr]at h3
       cases h3;rfl
      have h4:=again_ok hp hran R (S.set d v) hR.2 (h.set (fun u2 hu3=>by rw [hu]at hu3;cases hu3;exact hu2.symm) hok)
      exact h4
    ·exact stay
   ·exact stay
  ·exact stay
theorem brB_ok{T:Type}{ρ:Nat→Ad}{S:St}{F:Nat→Value}{w:World}(h:Rel C w0 S0 ρ S F w)(hn:C.nn=md.n){c:Operand}{y n:Option T}{r:T}(hb:brB (S.ev C c) y n=some r):
  ∃b,evn md F c=.bool b∧(b=true→y=some r)∧(b=false→n=some r):=by
 unfold brB at hb
 split at hb
 ·rename_i x hx
  refine⟨x,(agi h hn hx).2,fun e=> ?_,fun e=> ?_⟩<;>(subst e;exact hb)
 ·rename_i p hp hx
  refine⟨@decide p hp,(agi h hn hx).2,fun e=> ?_,fun e=> ?_⟩
  ·rw [if_pos (of_decide_eq_true e)]at hb;exact hb
  ·rw [if_neg (of_decide_eq_false e)]at hb;exact hb
 ·rename_i p hp hx
  refine⟨!@decide p hp,(agi h hn hx).2,fun e=> ?_,fun e=> ?_⟩
  ·have:¬p:=by simpa using e
   rw [if_neg this]at hb;exact hb
  ·have:p:=by simpa using e
   rw [if_pos this]at hb;exact hb
 ·cases hb
def Snd(C:Cx)(md:Md)(w0:World)(S0:List Nat)(τ:Ty)(res:St→Option τ.T)(c:Code):Prop:=
 ∀(sc:Sc) (S:St) (ρ':Ty) (ps:τ.T→Option ρ'.T) (κ:Ex→St→Option ρ'.T) (r:ρ'.T) (ρ:Nat→Ad) (F:Nat→Value) (w:World) (Q:Exit→Act→World→Prop),den C τ res c sc S ρ' ps κ=some r→Rel C w0 S0 ρ S F w→
  (∀e S2 ρ2 F2 w2,κ e S2=some r→Rel C w0 S0 ρ2 S2 F2 w2→Nx S ρ S2 ρ2→(∀t,t∉wr c→F2 t=F t)→(e=.nm→RanC C md c F2)→Q (exO e) (fr md F2) w2)→
  (∀y S2 ρ2 F2 w2,res S2=some y→ps y=some r→Rel C w0 S0 ρ2 S2 F2 w2→Lf S ρ S2 ρ2→Q .ret (fr md F2) w2)→Go.Wk.C C.P md Q c F w
theorem aqr{c:Code}{F:Nat→Value}(h:avv c=[]):RanC C md c F:=fun i d o _ ho=>by rw [h]at ho;simp at ho
end
open Go.Wk
open Go.Ce (Tr)
open List renaming mem_append_left → zbd, mem_append_right → zaY
open Nat renaming beq → zav, eq_of_beq_eq_true → zag, le_refl → zao, lt_succ_self → zaZ
open Sum renaming elim → zaO
section
variable {C : Cx} {md : Md} {w0 : World} {S0 : List Nat} {τ : Ty} {res : St → Option τ.T}
theorem leaf_sub{S S2:St}{J:List Key}{v:(keyT J).T}(h:leaf S J S2=some v):subR S.H.length (S.rgs J) S2.m=true:=by
 unfold leaf at h
 split at h
 ·cases htk:tk S J _ with
  |false=>rw [htk]at h;cases h
  |true=>
   cases hsub:subR S.H.length (S.rgs J) S2.m with
   |false=>rw [htk,hsub]at h;cases h
   |true=>rfl
 ·cases h
theorem out_F{S:St}{J:List Key}{w:List Nat}{v:(keyT J).T}:(S.out J w v).F=(putK S.ix (S.base J w) J v).1:=rfl
theorem out_H{S:St}{J:List Key}{w:List Nat}{v:(keyT J).T}:(S.out J w v).H=(putK S.ix (S.base J w) J v).2:=rfl
theorem snd_plain{a b:Code}(ha:Snd C md w0 S0 τ res a)(hb:Snd C md w0 S0 τ res b)(sa sb:Sc)(S:St)(ρ':Ty)(ps:τ.T→Option ρ'.T)(κ:Ex→St→Option ρ'.T)(r:ρ'.T)(ρ:Nat→Ad)(F:Nat→Value)(w:World)(Q:Exit→Act→World→Prop)
  (h:den C τ res a sa S ρ' ps (thenK κ fun S2=>den C τ res b sb S2 ρ' ps κ)=some r) (hS:Rel C w0 S0 ρ S F w)
  (hK:∀e S2 ρ2 F2 w2,κ e S2=some r→Rel C w0 S0 ρ2 S2 F2 w2→Nx S ρ S2 ρ2→(∀t,t∉wr (.seq a b)→F2 t=F t)→(e=.nm→RanC C md (.seq a b) F2)→Q (exO e) (fr md F2) w2)
  (hR:∀y S2 ρ2 F2 w2,res S2=some y→ps y=some r→Rel C w0 S0 ρ2 S2 F2 w2→Lf S ρ S2 ρ2→Q .ret (fr md F2) w2):Go.Wk.C C.P md Q (.seq a b) F w:=by
 have hw:wr (.seq a b)=wr a++wr b:=rfl
 refine c_seq (ha sa S ρ' ps _ r ρ F w _ h hS (fun e S2 ρ2 F2 w2 he hS2 hN hf _=> ?_) (fun y S2 ρ2 F2 w2 hy hp hS2 hL=>s_ret (hR y S2 ρ2 F2 w2 hy hp hS2 hL)))
 cases e with
 |nm=>
  refine q_next' (hb sb S2 ρ' ps κ r ρ2 F2 w2 Q he hS2 (fun e3 S3 ρ3 F3 w3 he3 hS3 hN3 hf3 _=> ?_) (fun y S3 ρ3 F3 w3 hy hp hS3 hL=>hR y S3 ρ3 F3 w3 hy hp hS3 (hN.toLf.trans hL)))
  exact hK e3 S3 ρ3 F3 w3 he3 hS3 (hN.trans hN3) (fun t ht=>by
   rw [hw]at ht
   rw [hf3 t fun h=>ht (zaY _ h),hf t fun h=>ht (zbd _ h)]) (fun _=>aqr rfl)
 |xt i=>
  exact s_exit (hK (.xt i) S2 ρ2 F2 w2 he hS2 hN (fun t ht=>hf t fun h=>ht (by rw [hw];exact zbd _ h)) (fun h=>by cases h))
theorem nx_out{S S3:St}{ρ ρ3:Nat→Ad}{J:List Key}{H:List Ob}(hJ:OkJ S J)(hH:S3.H=H)(hnb:S3.nb=S.nb)(hal:S3.al=S.al)(hm:S3.m=S.rgs J++S.m)(hle:∀(nb:Nat) (al:List Rg),(∀id j,id<nb→cov id j (S.rgs J)=true→cov id j al=true)→Le nb al ρ S.H ρ3 H):Nx S ρ S3 ρ3:=by
 refine⟨⟨hnb,hal, ?_⟩, ?_,fun id j hc=> ?_⟩
 ·rw [hH];exact hle S.nb S.al fun id j hi hc=>oks_cov hJ.oks hi hc
 ·rw [hH,hm];exact hle _ _ fun id j _ hc=>aia.2 (.inl hc)
 ·rw [hm];exact aia.2 (.inr hc)
theorem into_le{S S2:St}{ρ ρ2:Nat→Ad}{J:List Key}(h:Le S.H.length S2.m ρ S.H ρ2 S2.H)(hs:subR S.H.length (S.rgs J) S2.m=true):Le S.H.length (S.rgs J) ρ S.H ρ2 S2.H:=
 h.mono (zao _) fun id j hi hc=>subR_ok hs hi hc
theorem out_ok(hp:PureOk C md){a:Code}{S S2:St}{J:List Key}{R:List Nat}{ρ ρ2:Nat→Ad}{F F2:Nat→Value}{w w2:World}(hS:Rel C w0 S0 ρ S F w)(hJ:OkJ S J)(hR:okR (avv a) R=true)(hS2:Rel C w0 S0 ρ2 S2 F2 w2)(hN:Nx S.into ρ S2 ρ2)
  (hf:∀t,t∉wr a→F2 t=F t) (hran:RanC C md a F2) {v:(keyT J).T} (hl:leaf S J S2=some v):∃ρ3,Rel C w0 S0 ρ3 (again C (avv a) R (S.out J (wr a) v)) F2 w2∧Nx S ρ (again C (avv a) R (S.out J (wr a) v)) ρ3:=by
 obtain⟨ρ3,hup,h1,h2⟩:=join_ok (wl:=wr a) hS hJ (into_le hN.lg (leaf_sub hl)) hS2 hf hl
 obtain⟨h3,h4,h5,h6,h7⟩:=again_ok hp hran R _ hR (h1 (S.out J (wr a) v) out_F out_H)
 exact⟨ρ3,h3,nx_out hJ (h4.trans out_H) h5 h6 h7 h2⟩
theorem den_sound(hn:C.nn=md.n)(hD:∃k,md=⟨k,[],none⟩)(hp:PureOk C md):∀(c:Code),RegsOk C md w0 S0 c→Snd C md w0 S0 τ res c:=by
 intro c
 induction c with
 |skip=>
  intro _ sc S ρ' ps κ r ρ F w Q h hS hK hR
  exact c_skip (hK .nm S ρ F w h hS Nx.refl (fun _ _=>rfl) (fun _=>aqr rfl))
 |label l=>
  intro _ sc S ρ' ps κ r ρ F w Q h hS hK hR
  exact c_label (hK .nm S ρ F w h hS Nx.refl (fun _ _=>rfl) (fun _=>aqr rfl))
 |exit id=>
  intro _ sc S ρ' ps κ r ρ F w Q h hS hK hR
  exact c_exit (hK (.xt id) S ρ F w h hS Nx.refl (fun _ _=>rfl) (fun h=>by cases h))
 |goto l=>intro _ sc S ρ' ps κ r ρ F w Q h;cases h
 |refuse l=>intro _ sc S ρ' ps κ r ρ F w Q h;cases h
 |rangeFunc f p a b _ _=>intro _ sc S ρ' ps κ r ρ F w Q h;cases h
 |ret=>
  intro _ sc S ρ' ps κ r ρ F w Q h hS hK hR
  have h:(match res S with
   |some q=>ps q
   |none=>none)=some r:=h
  split at h
  ·rename_i q hq
   exact c_ret (hR q S ρ F w hq h hS Lf.refl)
  ·cases h
 |region id ops d=>
  intro hreg sc S ρ' ps κ r ρ F w Q h hS hK hR
  exact hreg ρ' S (fun S2=>κ .nm S2) r ρ F w Q h hS fun S2 ρ2 F2 w2 h2 hS2 hN hf hran=>hK .nm S2 ρ2 F2 w2 h2 hS2 hN hf (fun _=>hran)
 |scope a ih=>
  intro hreg sc S ρ' ps κ r ρ F w Q h hS hK hR
  obtain⟨k,rfl⟩:=hD
  refine c_scope (ih hreg sc S ρ' ps κ r ρ F w _ h hS (fun e S2 ρ2 F2 w2 he hS2 hN hf hran=> ?_) (fun y S2 ρ2 F2 w2 hy hps hS2 hL=>n_ret (hR y S2 ρ2 F2 w2 hy hps hS2 hL)))
  have:=hK e S2 ρ2 F2 w2 he hS2 hN hf (fun _=>aqr rfl)
  cases e with
  |nm=>exact n_normal this
  |xt i=>exact n_exit this
 |block id a ih=>
  intro hreg sc S ρ' ps κ r ρ F w Q h hS hK hR
  refine c_block (ih hreg sc S ρ' ps (hereK id κ) r ρ F w _ h hS (fun e S2 ρ2 F2 w2 he hS2 hN hf hran=> ?_) (fun y S2 ρ2 F2 w2 hy hps hS2 hL=>b_ret (hR y S2 ρ2 F2 w2 hy hps hS2 hL)))
  cases e with
  |nm=>exact b_normal (hK .nm S2 ρ2 F2 w2 he hS2 hN hf (fun _=>aqr rfl))
  |xt i=>
   have he:(bif zav i id then κ .nm S2 else κ (.xt i) S2)=some r:=he
   cases hb:zav i id with
   |true=>
    rw [hb]at he
    rw [zag hb]
    exact b_here (hK .nm S2 ρ2 F2 w2 he hS2 hN hf (fun _=>aqr rfl))
   |false=>
    rw [hb]at he
    exact b_past hb (hK (.xt i) S2 ρ2 F2 w2 he hS2 hN hf (fun h=>by cases h))
 |cond c a b iha ihb=>
  intro hreg sc S ρ' ps κ r ρ F w Q h hS hK hR
  have hwr:wr (.cond c a b)=wr a++wr b:=rfl
  have hA:∀sa,den C τ res a sa S ρ' ps κ=some r→Go.Wk.C C.P md Q a F w:=fun sa h=>iha hreg.1 sa S ρ' ps κ r ρ F w Q h hS (fun e S2 ρ2 F2 w2 he hS2 hN hf _=>hK e S2 ρ2 F2 w2 he hS2 hN (fun t ht=>hf t fun h=>ht (by rw [hwr];exact zbd _ h)) (fun _=>aqr rfl)) hR
  have hB:∀sb,den C τ res b sb S ρ' ps κ=some r→Go.Wk.C C.P md Q b F w:=fun sb h=>ihb hreg.2 sb S ρ' ps κ r ρ F w Q h hS (fun e S2 ρ2 F2 w2 he hS2 hN hf _=>hK e S2 ρ2 F2 w2 he hS2 hN (fun t ht=>hf t fun h=>ht (by rw [hwr];exact zaY _ h)) (fun _=>aqr rfl)) hR
  have both:∀sa sb,brB (S.ev C c) (den C τ res a sa S ρ' ps κ) (den C τ res b sb S ρ' ps κ)=some r→Go.Wk.C C.P md Q (.cond c a b) F w:=by
   intro sa sb h
   obtain⟨x,h1,h2,h3⟩:=brB_ok hS hn h
   exact c_bool h1 (fun e=>hA sa (h2 e)) (fun e=>hB sb (h3 e))
  cases sc with
  |y' sa=>
   obtain⟨x,h1,h2,h3⟩:=brB_ok hS hn (show brB (S.ev C c) (den C τ res a sa S ρ' ps κ) none=some r from h)
   exact c_bool h1 (fun e=>hA sa (h2 e)) (fun e=>by have:=h3 e;cases this)
  |z' sb=>
   obtain⟨x,h1,h2,h3⟩:=brB_ok hS hn (show brB (S.ev C c) none (den C τ res b sb S ρ' ps κ)=some r from h)
   exact c_bool h1 (fun e=>by have:=h2 e;cases this) (fun e=>hB sb (h3 e))
  |n'=>exact both _ _ h
  |s' x y=>exact both _ _ h
  |j' J R x y=>exact both _ _ h
  |r' J R x y=>exact both _ _ h
  |l' J x=>exact both _ _ h
 |seq a b iha ihb=>
  intro hreg sc S ρ' ps κ r ρ F w Q h hS hK hR
  have iha:=iha hreg.1
  have ihb:=ihb hreg.2
  have hwr:wr (.seq a b)=wr a++wr b:=rfl
  cases sc with
  |j' J R sa sb=>
   have h:(bif S.okJ J then(bif okR (avv a) R then Option.bind (den C τ res a sa S.into (keyT J) (fun _=>none) (thenK noK (leaf S J))) (fun v=>den C τ res b sb (again C (avv a) R (S.out J (wr a) v)) ρ' ps κ)else none)else none)=some r:=h
   have h:=aas h
   have h2:=aas h.2
   have hJ:=okJ_of h.1
   obtain⟨v,h3,h4⟩:=bind_inv h2.2
   refine c_seq (iha sa S.into (keyT J) _ _ v ρ F w _ h3 (hS.same rfl rfl) (fun e S2 ρ2 F2 w2 he hS2 hN hf hran=> ?_) (fun y S2 ρ2 F2 w2 hy hps=>by cases hps))
   cases e with
   |xt i=>cases he
   |nm=>
    obtain⟨ρ3,h5,h6⟩:=out_ok hp hS hJ h2.1 hS2 hN hf (hran rfl) he
    refine q_next' (ihb sb _ ρ' ps κ r ρ3 F2 w2 Q h4 h5 (fun e3 S3 ρ4 F3 w3 he3 hS3 hN3 hf3 _=> ?_) (fun y S3 ρ4 F3 w3 hy hps hS3 hL=>hR y S3 ρ4 F3 w3 hy hps hS3 (h6.toLf.trans hL)))
    exact hK e3 S3 ρ4 F3 w3 he3 hS3 (h6.trans hN3) (fun t ht=>by
     rw [hwr]at ht
     rw [hf3 t fun h=>ht (zaY _ h),hf t fun h=>ht (zbd _ h)]) (fun _=>aqr rfl)
  |r' J R sa sb=>
   have h:(bif S.okJ J then(bif okR (avv a) R then Option.bind (den C τ res a sa S.into (.sm (keyT J) τ) (fun r=>some (.inr r)) (thenK noK (leafR τ S J))) (fun j=>zaO (fun v=>den C τ res b sb (again C (avv a) R (S.out J (wr a) v)) ρ' ps κ) (fun q=>ps q) j)else none)else none)=some r:=h
   have h:=aas h
   have h2:=aas h.2
   have hJ:=okJ_of h.1
   obtain⟨v,h3,h4⟩:=bind_inv h2.2
   refine c_seq (iha sa S.into (.sm (keyT J) τ) _ _ v ρ F w _ h3 (hS.same rfl rfl) (fun e S2 ρ2 F2 w2 he hS2 hN hf hran=> ?_) (fun y S2 ρ2 F2 w2 hy hps hS2 hL=> ?_))
   ·cases e with
    |xt i=>cases he
    |nm=>
     have he:leafR τ S J S2=some v:=he
     unfold leafR at he
     split at he
     ·rename_i v2 hv2
      cases he
      obtain⟨ρ3,h5,h6⟩:=out_ok hp hS hJ h2.1 hS2 hN hf (hran rfl) hv2
      refine q_next' (ihb sb _ ρ' ps κ r ρ3 F2 w2 Q h4 h5 (fun e3 S3 ρ4 F3 w3 he3 hS3 hN3 hf3 _=> ?_) (fun y S3 ρ4 F3 w3 hy hps hS3 hL=>hR y S3 ρ4 F3 w3 hy hps hS3 (h6.toLf.trans hL)))
      exact hK e3 S3 ρ4 F3 w3 he3 hS3 (h6.trans hN3) (fun t ht=>by
       rw [hwr]at ht
       rw [hf3 t fun h=>ht (zaY _ h),hf t fun h=>ht (zbd _ h)]) (fun _=>aqr rfl)
     ·cases he
   ·cases hps
    exact s_ret (hR y S2 ρ2 F2 w2 hy h4 hS2 ⟨hL.nb,hL.al,hL.le⟩)
  |n'=>exact snd_plain iha ihb _ _ S ρ' ps κ r ρ F w Q h hS hK hR
  |s' x y=>exact snd_plain iha ihb _ _ S ρ' ps κ r ρ F w Q h hS hK hR
  |l' J x=>exact snd_plain iha ihb _ _ S ρ' ps κ r ρ F w Q h hS hK hR
  |y' x=>exact snd_plain iha ihb _ _ S ρ' ps κ r ρ F w Q h hS hK hR
  |z' x=>exact snd_plain iha ihb _ _ S ρ' ps κ r ρ F w Q h hS hK hR
 |loop a ih=>
  intro hreg sc S ρ' ps κ r ρ F w Q h hS hK hR
  have hwr:wr (.loop a)=wr a:=rfl
  cases sc with
  |l' J sa=>
   have h:(bif S.okJ J then(match leaf S J S.into with
    |some v=>loopF (fun g v=>den C τ res a sa (S.head J (wr a) v) ρ' ps (thenK (fun e S2=>κ e (S2.as S J)) (backK (leaf S J) g))) C.fu v
    |none=>none)else none)=some r:=h
   have h:=aas h
   have hJ:=okJ_of h.1
   have h2:=h.2
   split at h2
   ·rename_i v hv
    generalize hf0:(fun(g:(keyT J).T→Option ρ'.T) v=>den C τ res a sa (S.head J (wr a) v) ρ' ps (thenK (fun e S2=>κ e (S2.as S J)) (backK (leaf S J) g)))=f0 at h2
    let I:Nat→(Nat→Value)→World→Prop:=fun k F' w'=>∃(v:(keyT J).T) (ρ':Nat→Ad),loopF f0 k v=some r∧Rel C w0 S0 ρ' (S.head J (wr a) v) F' w'∧(∀(nb:Nat) (al:List Rg),(∀id j,id<nb→cov id j (S.rgs J)=true→cov id j al=true)→Le nb al ρ S.H ρ' (S.head J (wr a) v).H)∧∀t,t∉wr a→F' t=F t
    have hI0:I C.fu F w:=by
     obtain⟨ρ3,hup,h3,h4⟩:=join_ok (S2:=S.into) (wl:=wr a) (F2:=F) hS hJ Le.refl (hS.same rfl rfl) (fun _ _=>rfl) hv
     exact⟨v,ρ3,h2,h3 _ rfl rfl,h4,fun _ _=>rfl⟩
    refine c_loopI I C.fu hI0 fun k F' w' hI=> ?_
    obtain⟨v',ρ1,h3,h4,h5,h6⟩:=hI
    cases k with
    |zero=>cases h3
    |succ k=>
     have h3:f0 (loopF f0 k) v'=some r:=h3
     rw [←hf0]at h3
     have hLS:Lf S ρ (S.head J (wr a) v') ρ1:=⟨rfl,rfl,h5 _ _ fun id j hi hc=>oks_cov hJ.oks hi hc⟩
     refine ih hreg sa (S.head J (wr a) v') ρ' ps _ r ρ1 F' w' _ h3 h4 (fun e S2 ρ2 F2 w2 he hS2 hN hf hran=> ?_) (fun y S2 ρ2 F2 w2 hy hps hS2 hL=>q_ret (hR y S2 ρ2 F2 w2 hy hps hS2 (hLS.trans hL)))
     have hf2:∀t,t∉wr a→F2 t=F t:=fun t ht=>(hf t ht).trans (h6 t ht)
     cases e with
     |nm=>
      have he:backK (leaf S J) (loopF f0 k) S2=some r:=by rw [hf0]at he;exact he
      unfold backK at he
      split at he
      ·rename_i v2 hv2
       have hle:Le S.H.length (S.rgs J) ρ S.H ρ2 S2.H:=(h5 S.H.length (S.rgs J) fun _ _ _ h=>h).trans (hN.lg.mono (h5 0 [] (fun id j hi=>absurd hi (by omega))).len fun id j hi hc=>subR_ok (leaf_sub hv2) hi hc)
       obtain⟨ρ3,hup,h7,h8⟩:=join_ok (wl:=wr a) hS hJ hle hS2 hf2 hv2
       exact q_loop ⟨k,F2,rfl,zaZ k,v2,ρ3,he,h7 _ rfl rfl,h8,hf2⟩
      ·cases he
     |xt i=>
      refine q_exit (hK (.xt i) (S2.as S J) ρ2 F2 w2 he (hS2.same rfl rfl) ⟨?_, ?_,fun id j hc=> ?_⟩ (fun t ht=>hf2 t (by rw [hwr]at ht;exact ht)) (fun h=>by cases h))
      ·have:=hLS.trans hN.toLf
       exact⟨this.nb,this.al,this.le⟩
      ·refine(h5 S.H.length (S2.m++(S.rgs J++S.m)) fun id j _ hc=>aia.2 (.inr (aia.2 (.inl hc)))).trans ?_
       exact hN.lg.mono (h5 0 [] (fun id j hi=>absurd hi (by omega))).len fun id j _ hc=>aia.2 (.inl hc)
      ·exact aia.2 (.inr (aia.2 (.inr hc)))
   ·cases h2
  |_=>cases h
end
end Go.Oe
namespace Go.Ce
open Go.Wk
open List renaming length_cons → zad
section
variable {C : Cx} {m : M} {S : T} {n : Md} {w0 w : World} {E : En}
variable {d : Option Nat} {ty : TypeId} {pos : String} {after : Array Edge} {gd : Option (Nat × Bool)}
theorem fillZ:∀(off:Nat) (vs cells:List Value) (k:Nat),off+k+vs.length≤cells.length→
  (vs.zipIdx k).foldl (fun cs (p:Value×Nat)=>cs.setIfInBounds (off+p.2) p.1) cells.toArray=(cells.take (off+k)++vs++cells.drop (off+k+vs.length)).toArray
 |off,[],cells,k,h=>by simp
 |off,v::vs,cells,k,h=>by
  simp only [zad]at h
  simp only [List.zipIdx_cons,List.foldl_cons]
  have e:(cells.toArray.setIfInBounds (off+k) v)=(cells.set (off+k) v).toArray:=by simp
  rw [e,fillZ off vs (cells.set (off+k) v) (k+1) (by simp;omega)]
  congr 1
  have h1:(cells.set (off+k) v).take (off+(k+1))=cells.take (off+k)++[v]:=by
   rw [List.set_eq_take_append_cons_drop,if_pos (by omega)]
   have hl:(cells.take (off+k)).length=off+k:=by simp;omega
   rw [List.take_append,hl,List.take_of_length_le (by rw [hl];omega),show off+(k+1)-(off+k)=1 by omega]
   simp
  have h2:(cells.set (off+k) v).drop (off+(k+1)+vs.length)=cells.drop (off+k+(vs.length+1)):=by
   rw [List.drop_set_of_lt (by omega)]
   congr 1;omega
  rw [h1,h2]
  simp
end
end Go.Ce
namespace Go.Oe
open Go.Wk
open Go.Ce (Tr)
open Go.IntKind renaming wrap → zac
open Nat renaming eq_of_beq_eq_true → zag
open UInt8 renaming toNat_lt → zby
section
variable {C : Cx} {md : Md} {w0 w : World} {S0 : List Nat} {ρ : Nat → Ad} {S : St} {F : Nat → Value}
theorem oSz{t z:Nat}(h:tSz C t=some z)(w:World):(sizeOf t).run C.P w=.ok z w:=sval_run h w
theorem oAg{t:Nat}{b:Bool}(h:tAg C t=some b)(w:World):(isAgg t).run C.P w=.ok b w:=sval_run h w
theorem oStr{t:Nat}(h:apm C t=true):C.P.underlying t=some .string:=by
 unfold apm at h
 split at h
 ·assumption
 ·cases h
theorem oBool{t:Nat}(h:isBool C t=true):C.P.underlying t=some .bool:=by
 unfold isBool at h
 split at h
 ·assumption
 ·cases h
theorem oSl{t e:Nat}(h:slE C t=some e):C.P.underlying t=some (.slice e):=by
 unfold slE at h
 split at h
 ·rename_i hh;cases h;exact hh
 ·cases h
theorem oAr{t:Nat}{q:Nat×Nat}(h:arE C t=some q):C.P.underlying t=some (.array q.1 q.2):=by
 unfold arE at h
 split at h
 ·rename_i hh;cases h;exact hh
 ·cases h
theorem oK{t:Nat}{k:IntKind}(h:kindOf C t=some k):C.P.underlying t=some (.int k):=by
 unfold kindOf at h
 split at h
 ·rename_i hh;cases h;exact hh
 ·cases h
theorem oU8{t:Nat}(h:isU8 C t=true):C.P.underlying t=some (.int .u8):=by
 unfold isU8 at h
 split at h
 ·rename_i hh;rw [hh,keq_eq h]
 ·cases h
theorem oIsK{t:Nat}{k:IntKind}(h:isK C t k=true):C.P.underlying t=some (.int k):=by
 unfold isK at h
 split at h
 ·rename_i hh;rw [oK hh,keq_eq h]
 ·cases h
theorem oPtr{t:Nat}(h:isPtr C t=true):∃e,C.P.underlying t=some (.pointer e):=by
 unfold isPtr at h
 split at h
 ·rename_i e hh;exact⟨e,hh⟩
 ·cases h
theorem oIsSl{t:Nat}(h:isSl C t=true):∃e,C.P.underlying t=some (.slice e):=by
 unfold isSl at h
 split at h
 ·rename_i e hh;exact⟨e,hh⟩
 ·cases h
theorem eql_of{b:BinOp}(h:isEql b=true):b=.eql:=by cases b<;>first|rfl|cases h
theorem asI_v{c:SC}{i:Int}(h:asI c=some i)(ρ:Nat→Ad):∃k,c.v ρ=.int k i:=by
 cases c<;>simp only [asI,reduceCtorEq,Option.some.injEq]at h
 ·subst h;exact⟨_,rfl⟩
 ·subst h;exact⟨_,rfl⟩
theorem bin_ok{z:Bool}{b:BinOp}{t t':TypeId}{x y:Operand}{a c:SC}{g:List PD}{r:SV}(hx:evn md F x=a.v ρ)(hy:evn md F y=c.v ρ)(hz:∀k v,z=true→evn md F y=.int k v→0≤v)(h:bin z b a c=some (g,r))(hg:All g):Val C md ρ S F w (.binOp b t x y t') r:=by
 unfold bin at h
 split at h
 ·rename_i k u kk v
  cases hs:isShr b with
  |true=>
   rw [hs]at h
   have hb:b=.shr:=by cases b<;>first|rfl|cases hs
   subst hb
   have h:shI k u v=some (g,r):=h
   clear hs
   cases v with
   |negSucc n=>cases h
   |ofNat n=>
    cases h
    refine afg rfl rfl fun d ty pos after=>x_shr k kk u (Int.ofNat n) _ hx hy (Int.natCast_nonneg n) ?_ ?_
    ·show(2:Int)^(min n k.bits)=((2^(min n k.bits):Nat):Int)
     rw [Int.natCast_pow];rfl
    ·exact Int.natCast_pos.2 (Nat.pow_pos (by decide))
  |false=>
  rw [hs]at h
  simp only [cond_false]at h
  cases hs2:isShl b with
  |true=>
   rw [hs2]at h
   have hb:b=.shl:=by cases b<;>first|rfl|cases hs2
   subst hb
   have h:shlI k u v=some (g,r):=h
   clear hs hs2
   cases v with
   |negSucc n=>cases h
   |ofNat n=>
    cases h
    refine afg rfl rfl fun d ty pos after=>x_shl k kk u (Int.ofNat n) _ hx hy (Int.natCast_nonneg n) ?_
    show(2:Int)^(min n k.bits)=((2^(min n k.bits):Nat):Int)
    rw [Int.natCast_pow];rfl
  |false=>
  rw [hs2]at h
  simp only [cond_false]at h
  cases hk:keq k kk with
  |false=>rw [hk]at h;cases h
  |true=>
   rw [hk]at h
   obtain rfl:=keq_eq hk
   exact bI_ok hx hy h hg
 ·exact bC_ok hx hy h hg
 ·exact sh8_ok hx hy (fun hh=>hz _ _ hh hy) h hg
 ·exact bS_ok hx hy h hg
 ·cases h
theorem binN_ok{z:Bool}{b:BinOp}{t t':TypeId}{x y:Operand}{a c:SC}{g:List PD}{r:SV}(hx:evn md F x=a.v ρ)(hy:evn md F y=c.v ρ)(hz:∀k v,z=true→evn md F y=.int k v→0≤v)(h:binN C z t b a c=some (g,r))(hg:All g):Val C md ρ S F w (.binOp b t x y t') r:=by
 unfold binN at h
 split at h
 ·rename_i i off j
  have h1:=aas h
  have h2:=aas h1.2
  have h3:=aas h2.2
  have hj:=zag h1.1
  obtain rfl:=eql_of h3.1
  cases h3.2
  subst hj
  obtain⟨e,he⟩:=oPtr h2.1
  exact afg rfl rfl fun d ty pos after=>x_pnil _ he hx hy
 ·rename_i j j2
  have h1:=aas h
  have h2:=aas h1.2
  have h3:=aas h2.2
  have h4:=aas h3.2
  have hj:=zag h1.1
  have hj2:=zag h2.1
  obtain rfl:=eql_of h4.1
  cases h4.2
  subst hj
  subst hj2
  obtain⟨e,he⟩:=oPtr h3.1
  exact afg rfl rfl fun d ty pos after=>x_pnil _ he hx hy
 ·have h1:=aas h
  have h2:=aas h1.2
  obtain rfl:=eql_of h2.1
  cases h2.2
  obtain⟨e,he⟩:=oIsSl h1.1
  exact afg rfl rfl fun d ty pos after=>x_snil _ _ _ e he hx hy
 ·have h1:=aas h
  have h2:=aas h1.2
  obtain rfl:=eql_of h2.1
  cases h2.2
  obtain⟨e,he⟩:=oIsSl h1.1
  exact afg rfl rfl fun d ty pos after=>x_snil _ _ _ e he hx hy
 ·split at h
  ·rename_i u v hu hv
   have h1:=aas h
   exact bB_ok (oBool h1.1) (hx.trans (rB_v hu ρ)) (hy.trans (rB_v hv ρ)) h1.2
  ·exact bin_ok hx hy hz h hg
theorem not_ok{x:Operand}{t:TypeId}{a:SC}{g:List PD}{r:SV}(hx:evn md F x=a.v ρ)(h:notC a=some (g,r)):Val C md ρ S F w (.unOp .not t x) r:=by
 unfold notC at h
 split at h
 ·cases h;exact afg rfl rfl fun d ty pos after=>x_not _ hx
 ·cases h;exact afg rfl rfl fun d ty pos after=>x_not _ hx
 ·rename_i p hp
  cases h
  exact afg rfl rfl fun d ty pos after=>x_nnot _ hx
 ·cases h
theorem index_ok{x ix:Operand}{t:TypeId}{a i:SC}{g:List PD}{r:SV}(ht:apm C t=true)(hx:evn md F x=a.v ρ)(hi:evn md F ix=i.v ρ)(h:ixC a i=some (g,r))(hg:All g):Val C md ρ S F w (.index t x ix) r:=by
 unfold ixC at h
 split at h
 ·rename_i l
  split at h
  ·rename_i j hj
   cases h
   obtain⟨k,hk⟩:=asI_v hj ρ
   exact afg rfl rfl fun d ty pos after=>x_index l k j (oStr ht) hx (hi.trans hk) hg.1
  ·cases h
 ·cases h
theorem slice_ok{x:Operand}{lo hi:Option Operand}{t:TypeId}{a:SC}{i j:Option SC}{g:List PD}{r:SV}(ht:apm C t=true)(hx:evn md F x=a.v ρ)(hlo:(lo=none∧i=none)∨∃o c,lo=some o∧i=some c∧evn md F o=c.v ρ)(hhi:(hi=none∧j=none)∨∃o c,hi=some o∧j=some c∧evn md F o=c.v ρ)
  (h:cutC a i j=some (g,r)) (hg:All g):Val C md ρ S F w (.slice t x lo hi none) r:=by
 unfold cutC at h
 split at h
 ·rename_i l
  rcases hlo with⟨rfl,rfl⟩|⟨o,c,rfl,rfl,ho⟩<;>rcases hhi with⟨rfl,rfl⟩|⟨o2,c2,rfl,rfl,ho2⟩
  ·cases h
  ·simp only at h
   split at h
   ·rename_i m hm
    cases h
    obtain⟨k,hk⟩:=asI_v hm ρ
    exact afg rfl rfl fun d ty pos after=>x_slice_to l k m (oStr ht) hx (ho2.trans hk) hg.1
   ·cases h
  ·simp only at h
   split at h
   ·rename_i m hm
    cases h
    obtain⟨k,hk⟩:=asI_v hm ρ
    exact afg rfl rfl fun d ty pos after=>x_slice_from l k m (oStr ht) hx (ho.trans hk) hg.1
   ·cases h
  ·simp only at h
   split at h
   ·rename_i m m2 hm hm2
    cases h
    obtain⟨k,hk⟩:=asI_v hm ρ
    obtain⟨k2,hk2⟩:=asI_v hm2 ρ
    exact afg rfl rfl fun d ty pos after=>x_slice l k k2 m m2 (oStr ht) hx (ho.trans hk) (ho2.trans hk2) hg.1
   ·cases h
 ·cases h
theorem conC_ok{x:Operand}{s t:TypeId}{a:SC}{g:List PD}{r:SV}(hx:evn md F x=a.v ρ)(h:conC C s t a=some (g,r))(hg:All g):Val C md ρ S F w (.convert s t x) r:=by
 unfold conC at h
 split at h
 ·rename_i u
  have h1:=aas h
  have hs:=oU8 h1.1
  have h2:=h1.2
  have hx:evn md F x=.int .u8 (u.toNat:Int):=hx
  have hlt:=zby u
  split at h2
  ·rename_i hk
   cases h2
   refine afg rfl rfl fun d ty pos after=> ?_
   exact x_convx .u8 .u8 _ hs (oK hk) hx (by rw [IntKind.wrap_u8];omega)
  ·rename_i hk
   cases h2
   refine afg rfl rfl fun d ty pos after=> ?_
   exact x_convx .i64 .u8 _ hs (oK hk) hx (wrap_u8_i64 u)
  ·rename_i hk
   cases h2
   refine afg rfl rfl fun d ty pos after=> ?_
   exact x_convx .i32 .u8 _ hs (oK hk) hx (by simp [zac,IntKind.bits,IntKind.signed];omega)
  ·cases h2
 ·rename_i k n
  have h1:=aas h
  have hs:=oIsK h1.1
  have h2:=h1.2
  split at h2
  ·rename_i hk
   cases h2
   exact afg rfl rfl fun d ty pos after=>x_toU8 k n hs (oK hk) hx
  ·rename_i k' _ hk
   cases he:keq k k' with
   |true=>
    rw [he]at h2
    obtain rfl:=keq_eq he
    simp only [cond_true]at h2
    cases h64:i64 k with
    |true=>
     rw [h64]at h2
     obtain rfl:=i64_eq h64
     cases h2
     exact afg rfl rfl fun d ty pos after=>x_convx .i64 .i64 n hs (oK hk) hx (aua hg.1.lo hg.1.hi)
    |false=>
     rw [h64]at h2
     cases h2
     exact afg rfl rfl fun d ty pos after=>x_convx k k n hs (oK hk) hx hg.1
   |false=>
    rw [he]at h2
    cases h2
    exact afg rfl rfl fun d ty pos after=>x_conv k' k n hs (oK hk) hx
  ·have h3:=aas h2
   cases h3.2
   exact afg rfl rfl fun d ty pos after=>x_runestr k k n hs (oStr h3.1) hx
 ·rename_i l
  have h1:=aas h
  have h2:=aas h1.2
  cases h2.2
  exact afg rfl rfl fun d ty pos after=>x_convstr l (oStr h1.1) (oStr h2.1) hx
 ·cases h
end
open Go.Wk
open Go.Ce (Tr)
open List renaming length_map → zaK, map_cons → zaI, mem_cons_of_mem → zaf, mem_cons_self → zak
open Nat renaming add_assoc → zaQ, add_zero → zaP, beq → zav, eq_of_beq_eq_true → zag
section
variable {C : Cx} {md : Md} {w0 w : World} {S0 : List Nat} {ρ : Nat → Ad} {S : St} {F : Nat → Value}
theorem partC_ok{l:List SC}{off n:Nat}{a:Bool}{v:SV}(h:partC l off n a=some v):
  (a=false∧∃x,l[off]? =some x∧x.kn=true∧v=.c' x)∨(a=true∧off+n≤l.length∧(∀x∈(l.drop off).take n,x.kn=true)∧v=.a' ((l.drop off).take n))∨(a=true∧n=0∧v=.a' []):=by
 unfold partC at h
 cases a with
 |true=>
  simp only [cond_true]at h
  split at h
  ·rename_i q hq
   have h1:=aas h
   cases h1.2
   obtain⟨h2,h3⟩:=ltake_some hq
   rw [ldrop_eq]at h2 h3
   subst h2
   by_cases hn:n=0
   ·subst hn;exact .inr (.inr ⟨rfl,rfl,by simp⟩)
   ·refine .inr (.inl ⟨rfl, ?_,knL_all h1.1,rfl⟩)
    simp at h3;omega
  ·cases h
 |false=>
  simp only [cond_false]at h
  split at h
  ·rename_i x hx
   have h1:=aas h
   cases h1.2
   rw [abm]at hx
   exact .inl ⟨rfl,x,hx,h1.1,rfl⟩
  ·cases h
theorem partC_oks{l:List SC}{off n k:Nat}{a:Bool}{v:SV}(h:partC l off n a=some v)(hl:∀x∈l,x.ok k):v.ok k:=by
 rcases partC_ok h with⟨_,x,h1,_,rfl⟩|⟨_,_,_,rfl⟩|⟨_,_,rfl⟩
 ·exact hl x (List.mem_of_getElem? h1)
 ·exact fun x hx=>hl x (List.mem_of_mem_drop (List.mem_of_mem_take hx))
 ·intro x hx;cases hx
theorem fldAt_some{t f:Nat}{q:Nat×Nat×Bool}(h:fldAt C t f=some q):∃(l:List Field) (fd:Field),C.P.underlying t=some (.struct l.toArray)∧l[f]? =some fd∧q.1=fd.offset∧tSz C fd.type=some q.2.1∧tAg C fd.type=some q.2.2:=by
 unfold fldAt at h
 split at h
 ·rename_i fs hfs
  split at h
  ·rename_i fd hfd
   split at h
   ·rename_i n a hn ha
    cases h
    rw [abm]at hfd
    exact⟨fs.toList,fd,by simpa using hfs,hfd,rfl,hn,ha⟩
   ·cases h
  ·cases h
 ·cases h
theorem part_ok{t:Nat}{xs:List SC}{off n:Nat}{a:Bool}{v:SV}(h:partC xs off n a=some v)(hn:tSz C t=some n)(ha:tAg C t=some a):∃u,v.v ρ=some u∧(part t (xs.map (SC.v ρ)).toArray off).run C.P w=.ok u w:=by
 rcases partC_ok h with⟨rfl,x,h2,_,rfl⟩|⟨rfl,h3,_,rfl⟩|⟨rfl,rfl,rfl⟩
 ·exact⟨_,rfl,by simp [part,oAg ha w,h2]⟩
 ·refine⟨_,rfl, ?_⟩
  have e:(xs.map (SC.v ρ)).toArray.extract off (off+n)=(((xs.drop off).take n).map (SC.v ρ)).toArray:=by
   simp only [List.extract_toArray,List.extract_eq_take_drop,Nat.add_sub_cancel_left]
   rw [List.map_take,List.map_drop]
  simp only [part,Sem.run_bind,oAg ha w,Result.andThen_ok,if_true,oSz hn w,Sem.run_pure,e]
 ·refine⟨_,rfl, ?_⟩
  have e:(xs.map (SC.v ρ)).toArray.extract off (off+0)= #[]:=by simp
  simp only [part,Sem.run_bind,oAg ha w,Result.andThen_ok,if_true,oSz hn w,Sem.run_pure,e]
  rfl
theorem field_ok{t f:Nat}{x:Operand}{l:List SC}{v:SV}{q:Nat×Nat×Bool}(hx:evn md F x=.agg (l.map (SC.v ρ)).toArray)(hl:∀x∈l,x.ok S.H.length)(hq:fldAt C t f=some q)(h:partC l q.1 q.2.1 q.2.2=some v):Val C md ρ S F w (.field t x f) v:=by
 obtain⟨fs,fd,h1,h2,h3,h4,h5⟩:=fldAt_some hq
 obtain⟨u,h6,h7⟩:=part_ok (w:=w) (ρ:=ρ) h h4 h5
 refine⟨partC_oks h hl,u,h6,fun d ty pos after=> ?_⟩
 rw [h3]at h7
 simp [execOp,hx,Instr.field,run_underlying h1,h2,asAgg]
 rw [h7];rfl
theorem fieldAddr_ok{t f:Nat}{x:Operand}{c:SC}{v:SV}(hx:evn md F x=c.v ρ)(hc:c.ok S.H.length)(h:aui C t f c=some v):Val C md ρ S F w (.fieldAddr t x f) v:=by
 unfold aui at h
 split at h
 ·rename_i q hq
  obtain⟨fs,fd,h1,h2,h3,h4,h5⟩:=fldAt_some hq
  cases hz:zav q.2.1 0 with
  |true=>rw [hz]at h;cases h
  |false=>
   rw [hz]at h
   simp only [cond_false]at h
   have hne:q.2.1≠0:=fun e=>by rw [e]at hz;cases hz
   have hat:∀A:Addr,(Instr.fieldAt t (.pointer (some A)) f).run C.P w=.ok (.pointer (some (A.add fd.offset))) w:=by
    intro A
    simp [Instr.fieldAt,run_underlying h1,h2,Instr.sureAddr,fieldPlace,oSz h4 w,hne]
   split at h
   ·rename_i id off
    cases h
    refine⟨hc,_,rfl,fun d ty pos after=> ?_⟩
    have hx:evn md F x=.pointer (some ⟨(ρ id).b,off,none⟩):=hx
    rw [x_fld _ fd.offset hx (hat _),ame,←h3];rfl
   ·rename_i id j sz off
    cases h
    refine⟨hc,_,rfl,fun d ty pos after=> ?_⟩
    have hx:evn md F x=.pointer (some (ea (ρ id).a (j.toNat*sz+off))):=hx
    rw [x_fldE _ _ fd.offset hx (by rw [←ea_add];exact hat _),←h3,zaQ];rfl
   ·cases h
 ·cases h
theorem extract_ok{x:Operand}{i:Nat}{l:List SA}{y:SA}(hx:evn md F x=.tuple (l.map (SA.v ρ)).toArray)(hl:∀x∈l,x.ok S.H.length)(h:ams l i=some y):Val C md ρ S F w (.extract x i) y.sv:=by
 rw [abm]at h
 exact⟨SA.sv_ok (hl y (List.mem_of_getElem? h)),_,SA.sv_v ρ y,fun d ty pos after=>x_extract _ _ hx (by simp [h])⟩
theorem zC_ok{t:Nat}{z:List SC}(h:zC C t=some z)(w:World):∃v,(zeroValue t).run C.P w=.ok v w∧(∀c∈z,c.ids=[]∧c.kn=true)∧∀ρ,v.cells=(z.map (SC.v ρ)).toArray:=by
 unfold zC at h
 split at h
 ·rename_i v hv
  obtain⟨h1,h2⟩:=cvL_ok h
  exact⟨v,sval_run hv w,h1,fun ρ=>by rw [h2]⟩
 ·cases h
theorem fillP_ok{ev:Operand→SV}{pl:Nat→Option (Nat×Nat)}{k:Nat}:∀(ps:List (Nat×Operand)) (cs r:List SC),(∀p∈ps,(ev p.2).ok k∧∀u,(ev p.2).v ρ=some u→evn md F p.2=u)→(∀x∈cs,x.ok k)→fillP pl ev ps cs=some r→
  Instr.fill pl (cs.map (SC.v ρ)).toArray (ps.map fun p=>(p.1,evn md F p.2))=some (r.map (SC.v ρ)).toArray∧r.length=cs.length∧∀x∈r,x.ok k
 |[],cs,r,_,hc,h=>by
  cases h
  exact⟨rfl,rfl,hc⟩
 |p::ps,cs,r,hp,hc,h=>by
  simp only [fillP]at h
  split at h
  ·rename_i q vs hq hvs
   have h1:=aas h
   have h2:=h1.2
   split at h2
   ·rename_i cs2 hcs2
    obtain⟨h3,h4⟩:=auh hcs2
    have hev:=hp p zak
    have hvo:=SV.cells_ok hvs hev.1
    obtain⟨v,hv1,hv2⟩:=SV.cells_v (ρ:=ρ) hvs
    have hvv:=hev.2 v hv1
    have hok2:∀x∈cs2,x.ok k:=by
     rw [h4]
     intro x hx
     rcases List.mem_append.1 hx with hx|hx
     ·rcases List.mem_append.1 hx with hx|hx
      ·exact hc x (List.mem_of_mem_take hx)
      ·exact hvo x hx
     ·exact hc x (List.mem_of_mem_drop hx)
    obtain⟨h5,h6,h7⟩:=fillP_ok ps cs2 r (fun p2 hm=>hp p2 (zaf _ hm)) hok2 h2
    refine⟨?_,by rw [h6,putC_len hcs2],h7⟩
    obtain⟨off,size⟩:=q
    obtain⟨i,o⟩:=p
    have hsz:vs.length=size:=zag h1.1
    have h3:off+vs.length≤cs.length:=h3
    simp only [zaI,Instr.fill,hq,hvv]
    have hcs:v.cells.size=vs.length:=by rw [hv2];simp
    have hc2:¬((v.cells.size≠size||decide (off+v.cells.size>(cs.map (SC.v ρ)).toArray.size))=true):=by
     rw [hcs]
     simp [hsz];omega
    rw [if_neg hc2,←h5]
    congr 1
    rw [hv2]
    have hz:=Go.Ce.fillZ off (vs.map (SC.v ρ)) (cs.map (SC.v ρ)) 0 (by simp;exact h3)
    simp only [zaP,zaK]at hz
    rw [h4]
    have e:((cs.take off++vs++cs.drop (off+vs.length)).map (SC.v ρ))=(cs.map (SC.v ρ)).take off++vs.map (SC.v ρ)++(cs.map (SC.v ρ)).drop (off+vs.length):=by simp
    simp only at e⊢
    rw [e,←hz,←Array.foldl_toList]
    simp [Array.toList_zipIdx]
   ·cases h2
  ·cases h
theorem placesO_ok:∀{fs:List Field} {l:List (Nat×Nat)},placesO C fs=some l→(fs.mapM fun f=>(do pure (f.offset,←sizeOf f.type):Sem (Nat×Nat))).run C.P w=.ok l w
 |[],l,hv=>by cases hv;simp
 |f::fs,l,hv=>by
  simp only [placesO]at hv
  split at hv
  ·rename_i z h1
   split at hv
   ·rename_i q h2
    cases hv
    have ih:=placesO_ok h2
    rw [List.mapM_cons]
    simp only [Sem.run_bind,oSz h1 w,Result.andThen_ok,Sem.run_pure,ih]
   ·cases hv
  ·cases hv
theorem build_ok{w2:World}(hS:Rel C w0 S0 ρ S F w2)(hn:C.nn=md.n){t:Nat}{ps:Array (Nat×Operand)}{v:SV}(h:opBuild C (S.ev C) t ps.toList=some v):Val C md ρ S F w (.build t ps) v:=by
 unfold opBuild at h
 split at h
 ·rename_i z pl hz hpl
  split at h
  ·rename_i cs hcs
   cases h
   obtain⟨zv,h1,h2,h3⟩:=zC_ok hz w
   obtain⟨h4,h5,h6⟩:=fillP_ok (ρ:=ρ) (md:=md) (F:=F) (k:=S.H.length) ps.toList z cs (fun p _=>awz hS hn p.2) (fun c hc i hi=>by rw [(h2 c hc).1]at hi;cases hi) hcs
   refine⟨h6,_,rfl,fun d ty pos after=> ?_⟩
   have hparts:(ps.map fun p=>(p.1,evn md F p.2)).toList=ps.toList.map fun p=>(p.1,evn md F p.2):=by simp
   have h3:=h3 ρ
   unfold plOf at hpl
   split at hpl
   ·rename_i fs hfs
    split at hpl
    ·rename_i lp hlp
     cases hpl
     have hm:=placesO_ok (w:=w) hlp
     have hple:ams lp=fun i=>lp.toArray[i]? :=by funext i;rw [abm];simp
     rw [hple]at h4
     have hfs':C.P.underlying t=some (.struct fs.toList.toArray):=by simpa using hfs
     simp only [execOp,Instr.build,Sem.run_bind,h1,Result.andThen_ok,run_underlying hfs',h3,List.mapM_toArray,Sem.run_map,hm,Sem.run_pure]
     rw [hparts,h4]
     rfl
    ·cases hpl
   ·rename_i k e he
    split at hpl
    ·rename_i n hn2
     cases hpl
     simp only [execOp,Instr.build,Sem.run_bind,h1,Result.andThen_ok,run_underlying he,h3,oSz hn2 w]
     rw [hparts,h4]
     rfl
    ·cases hpl
   ·cases hpl
  ·cases h
 ·cases h
end
open Go.Wk
open Go.Ce (Tr)
open List renaming flatMap_cons → zas, map_cons → zaI
section
variable {C : Cx} {md : Md} {w0 w : World} {S0 : List Nat} {ρ : Nat → Ad} {S : St} {F : Nat → Value}
theorem alq{H:List Ob}{r:Rv}{ro:Ro}(h:pur H r=some ro):∃g v,r=some (g,v)∧ro=⟨g,v,H,[]⟩:=by
 unfold pur at h
 split at h
 ·cases h;exact⟨_,_,rfl,rfl⟩
 ·cases h
theorem aol{H:List Ob}{v:Option SV}{ro:Ro}(h:val1 H v=some ro):∃x,v=some x∧ro=⟨[],x,H,[]⟩:=by
 unfold val1 at h
 split at h
 ·cases h;exact⟨_,rfl,rfl⟩
 ·cases h
theorem known_v{x v:SV} (h:(match x with
  |.u'=>none
  |v=>some v)=some v):x=v∧∃u,v.v ρ=some u:=by
 cases x<;>simp only [Option.some.injEq,reduceCtorEq]at h
 ·subst h;exact⟨rfl,_,rfl⟩
 ·subst h;exact⟨rfl,_,rfl⟩
 ·subst h;exact⟨rfl,_,rfl⟩
 ·subst h;exact⟨rfl,_,rfl⟩
theorem apu{α:Type}{ev:Operand→SV}{x:Option Operand}{f:Option SC→Option α}{r:α}(h:onO ev x f=some r):(x=none∧f none=some r)∨∃o c,x=some o∧ev o=.c' c∧f (some c)=some r:=by
 cases x with
 |none=>exact .inl ⟨rfl,h⟩
 |some o=>
  obtain⟨c,h1,h2⟩:=ack h
  exact .inr ⟨o,c,rfl,h1,h2⟩
theorem arE_some{t:Nat}{q:Nat×Nat}(h:arE C t=some q):C.P.underlying t=some (.array q.1 q.2):=by
 unfold arE at h
 split at h
 ·rename_i hu;cases h;exact hu
 ·cases h
theorem ixTab_ok{x ix:Operand}{t:Nat}{cs:List SC}{i:SC}{g:List PD}{v:SV}(hx:evn md F x=.agg (cs.map (SC.v ρ)).toArray)(hi:evn md F ix=i.v ρ)(h:ixTab C t cs i=some (g,v))(hg:All g):Val C md ρ S F w (.index t x ix) v:=by
 unfold ixTab at h
 split at h
 ·rename_i q hq
  have h:=(aas h).2
  split at h
  ·rename_i h1 h2
   split at h
   ·rename_i l j hl hj
    cases h
    obtain⟨k,hk⟩:=asI_v hj ρ
    obtain⟨h3,_,h5⟩:=asn hl
    have h6:(l.map fun s=>[str s])=(cs.map (SC.v ρ)).map fun c=>[c]:=by
     rw [h5 ρ,List.map_flatMap]
     have:∀l:List Str,(l.map fun s=>[str s])=l.flatMap fun a=>List.map (fun c=>[c]) ((Ty.s').enc a):=by
      intro l
      induction l with
      |nil=>rfl
      |cons s l ih=>rw [zaI,zas,ih];rfl
     exact this l
    letI:=Ty.inh .s';exact afg rfl rfl fun d ty pos after=>x_ixA (e:=q.2) (fun s=>[str s]) l q.1 k j (cs.map (SC.v ρ)) (str (elT .s' l j)) h6 (arE_some hq) h3 (oAg h2 w) (oSz h1 w) hx (hi.trans hk) rfl hg.1
   ·cases h
  ·cases h
 ·cases h
theorem aub(hn:C.nn=md.n)(hS:Rel C w0 S0 ρ S F w){op:Op}(hp:isPure op=true){ro:Ro}(h:opP C (S.ev C) S.H op=some ro)(hg:All ro.g)(w':World):Val C md ρ S F w' op ro.v∧ro.H=S.H∧ro.m=[]:=by
 cases op<;>first|cases hp|skip
 case move x=>
  obtain⟨v,h1,rfl⟩:=aol h
  obtain⟨h2,u,h3⟩:=known_v (ρ:=ρ) h1
  obtain⟨h4,h5⟩:=awz hS hn x
  rw [h2]at h4 h5
  exact⟨⟨h4,u,h3,fun d ty pos after=>by rw [←h5 u h3];rfl⟩,rfl,rfl⟩
 case assign x=>
  obtain⟨v,h1,rfl⟩:=aol h
  obtain⟨h2,u,h3⟩:=known_v (ρ:=ρ) h1
  obtain⟨h4,h5⟩:=awz hS hn x
  rw [h2]at h4 h5
  exact⟨⟨h4,u,h3,fun d ty pos after=>by rw [←h5 u h3];rfl⟩,rfl,rfl⟩
 case binOp b t x y t'=>
  obtain⟨g,v,h1,rfl⟩:=alq h
  obtain⟨a,h2,h3⟩:=ack h1
  obtain⟨c,h4,h5⟩:=ack h3
  exact⟨binN_ok (agi hS hn h2).2 (agi hS hn h4).2 (fun k v hz hv=>isNN_ok hv hz) h5 hg,rfl,rfl⟩
 case unOp u t x=>
  cases u<;>first|cases h|skip
  obtain⟨g,v,h1,rfl⟩:=alq h
  obtain⟨a,h2,h3⟩:=ack h1
  exact⟨not_ok (agi hS hn h2).2 h3,rfl,rfl⟩
 case convert s t x=>
  obtain⟨g,v,h1,rfl⟩:=alq h
  obtain⟨a,h2,h3⟩:=ack h1
  exact⟨conC_ok (agi hS hn h2).2 h3 hg,rfl,rfl⟩
 case index t x ix=>
  have h:(bif apm C t then pur S.H (on1 (S.ev C x) fun a=>on1 (S.ev C ix) fun i=>ixC a i)else(match S.ev C x with
   |.a' cs=>pur S.H (on1 (S.ev C ix) fun i=>ixTab C t cs i)
   |_=>none))=some ro:=h
  cases ht:apm C t with
  |true=>
   rw [ht]at h
   obtain⟨g,v,h1,rfl⟩:=alq h
   obtain⟨a,h2,h3⟩:=ack h1
   obtain⟨c,h4,h5⟩:=ack h3
   exact⟨index_ok ht (agi hS hn h2).2 (agi hS hn h4).2 h5 hg,rfl,rfl⟩
  |false=>
   rw [ht]at h
   simp only [cond_false]at h
   have hev:=awz hS hn x
   split at h
   ·rename_i cs hcs
    obtain⟨g,v,h1,rfl⟩:=alq h
    obtain⟨c,h4,h5⟩:=ack h1
    rw [hcs]at hev
    exact⟨ixTab_ok (hev.2 _ rfl) (agi hS hn h4).2 h5 hg,rfl,rfl⟩
   ·cases h
 case slice t x lo hi mx=>
  cases mx with
  |some m=>have:=(aas (show(bif apm C t then opM C (S.ev C) S.H (.slice t x lo hi (some m))else none)=some ro from h)).2;cases this
  |none=>
   have h:=aas (show(bif apm C t then opM C (S.ev C) S.H (.slice t x lo hi none)else none)=some ro from h)
   have h2:(bif apm C t then pur S.H (on1 (S.ev C x) fun a=>onO (S.ev C) lo fun i=>onO (S.ev C) hi fun j=>cutC a i j)else on1 (S.ev C x) fun a=>onO (S.ev C) lo fun i=>onO (S.ev C) hi fun j=>opSl C S.H t a i j)=some ro:=h.2
   rw [h.1]at h2
   have h:=And.intro h.1 h2
   obtain⟨g,v,h1,rfl⟩:=alq h.2
   obtain⟨a,h2,h3⟩:=ack h1
   refine⟨?_,rfl,rfl⟩
   rcases apu h3 with⟨h4,h5⟩|⟨o,c,h4,h5,h6⟩
   ·rcases apu h5 with⟨h7,h8⟩|⟨o2,c2,h7,h8,h9⟩
    ·exact slice_ok h.1 (agi hS hn h2).2 (.inl ⟨h4,rfl⟩) (.inl ⟨h7,rfl⟩) h8 hg
    ·exact slice_ok h.1 (agi hS hn h2).2 (.inl ⟨h4,rfl⟩) (.inr ⟨o2,c2,h7,rfl,(agi hS hn h8).2⟩) h9 hg
   ·rcases apu h6 with⟨h7,h8⟩|⟨o2,c2,h7,h8,h9⟩
    ·exact slice_ok h.1 (agi hS hn h2).2 (.inr ⟨o,c,h4,rfl,(agi hS hn h5).2⟩) (.inl ⟨h7,rfl⟩) h8 hg
    ·exact slice_ok h.1 (agi hS hn h2).2 (.inr ⟨o,c,h4,rfl,(agi hS hn h5).2⟩) (.inr ⟨o2,c2,h7,rfl,(agi hS hn h8).2⟩) h9 hg
 case extract x i=>
  have h:(match S.ev C x with
   |.t' l=>match ams l i with
    |some y=>some (Ro.mk [] y.sv S.H [])
    |none=>none
   |_=>none)=some ro:=h
  obtain⟨h1,h2⟩:=awz hS hn x
  split at h
  ·rename_i l hl
   split at h
   ·rename_i y hy
    cases h
    rw [hl]at h1 h2
    exact⟨extract_ok (h2 _ rfl) h1 hy,rfl,rfl⟩
   ·cases h
  ·cases h
 case field t x f=>
  have h:(match S.ev C x with
   |.a' l=>match fldAt C t f with
    |some q=>val1 S.H (partC l q.1 q.2.1 q.2.2)
    |none=>none
   |_=>none)=some ro:=h
  obtain⟨h1,h2⟩:=awz hS hn x
  split at h
  ·rename_i l hl
   split at h
   ·rename_i q hq
    obtain⟨v,h3,rfl⟩:=aol h
    rw [hl]at h1 h2
    exact⟨field_ok (h2 _ rfl) h1 hq h3,rfl,rfl⟩
   ·cases h
  ·cases h
 case build t ps=>
  obtain⟨v,h1,rfl⟩:=aol h
  exact⟨build_ok hS hn h1,rfl,rfl⟩
 case fieldAddr t x f=>
  obtain⟨a,h1,h2⟩:=ack (show on1 (S.ev C x) (fun a=>val1 S.H (aui C t f a))=some ro from h)
  obtain⟨v,h3,rfl⟩:=aol h2
  obtain⟨h4,h5⟩:=agi hS hn h1
  exact⟨fieldAddr_ok h5 h4 h3,rfl,rfl⟩
theorem pureOk(hn:C.nn=md.n):PureOk C md:=fun w0 S0 ρ S F w op v H m hS hp h w'=>(aub hn hS hp h trivial w').1
end
open Go.Wk
open Go.Ce (Tr)
open Nat renaming le_refl → zao
def Step(C:Cx)(md:Md)(w0:World)(S0:List Nat)(ρ:Nat→Ad)(S:St)(F:Nat→Value)(w:World)(o:Oper)(S2:St):Prop:=
 ∀(ops:Array Oper) (Q:Exit→Act→World→Prop) (rest:List Oper),
  (∀ρ2 F2 w2,Rel C w0 S0 ρ2 S2 F2 w2→Nx S ρ S2 ρ2→(∀t,o.dst≠some t→F2 t=F t)→(∀d,o.dst=some d→isPure o.op=true→∃w3,(execOp (evn md F) o).run C.P w=.ok (.value (F2 d)) w3)→W C.P md ops Q rest F2 w2)→W C.P md ops Q (o::rest) F w
section
variable {C : Cx} {md : Md} {w0 w : World} {S0 : List Nat} {ρ : Nat → Ad} {S : St} {F : Nat → Value}
variable {d : Nat} {ty : TypeId} {pos : String} {after : Array Edge}
theorem awl{ρ2:Nat→Ad}{S2:St}{w2:World}{v:SV}{u:Value}(h:Rel C w0 S0 ρ2 S2 F w2)(hv:v.v ρ2=some u)(ho:v.ok S2.H.length):Rel C w0 S0 ρ2 (S2.set d v) (upd F d u) w2:=by
 refine⟨h.gl,fun t u2 hu=> ?_,fun t=> ?_,h.ho,h.mem⟩
 ·rw [at_set]at hu
  by_cases e:t=d
  ·rw [if_pos e]at hu
   rw [hv]at hu;cases hu
   subst e;rw [atm]
  ·rw [if_neg e]at hu
   rw [upd_ne _ _ _ _ e];exact h.fr t u2 hu
 ·rw [at_set]
  by_cases e:t=d
  ·rw [if_pos e];exact ho
  ·rw [if_neg e];exact h.fo t
theorem aqp{u:Value}:∀t,(some d:Option Nat)≠some t→upd F d u t=F t:=fun t h=>upd_ne _ _ _ _ fun e=>h (by rw [e])
theorem step_val{op:Op}{v:SV}(hS:Rel C w0 S0 ρ S F w)(h:Val C md ρ S F w op v):Step C md w0 S0 ρ S F w ⟨some d,op,ty,pos,after,none⟩ (St.set ⟨S.F,S.H,S.nb,S.al,[]++S.m⟩ d v):=by
 intro ops Q rest hk
 obtain⟨h1,u,h2,h3⟩:=h
 refine akh rfl rfl (h3 d ty pos after) (hk ρ _ w (awl (hS.same rfl rfl) h2 h1) ⟨⟨rfl,rfl,Le.refl⟩,Le.refl,fun _ _ h=>h⟩ aqp fun d2 hd _=>⟨w, ?_⟩)
 cases hd
 rw [atm];exact h3 d ty pos after
def adN(ρ:Nat→Ad)(n:Nat)(a:Ad):Nat→Ad:=fun id=>if id=n then a else ρ id
theorem adN_up{n:Nat}{a:Ad}:Up n ρ (adN ρ n a):=fun id hi=>by unfold adN;rw [if_neg (by omega)]
theorem adN_n{n:Nat}{a:Ad}:adN ρ n a n=a:=by unfold adN;rw [if_pos rfl]
theorem Hp.rot{w0 w:World}{S:List Nat}{L:List Res}{r:Res}(h:Hp w0 S (r::L) w):Hp w0 S (L++[r]) w:=by
 refine⟨h.os,h.tape,h.output,h.size,h.below,fun x hx=>h.res x (by simp at hx⊢;exact hx.symm), ?_⟩
 have hs:=List.pairwise_cons.1 h.sep
 refine List.pairwise_append.2 ⟨hs.2,List.pairwise_singleton _ _,fun a ha b hb=> ?_⟩
 simp at hb
 subst hb
 intro k hk e
 exact hs.1 a ha k e hk
theorem RO.up{n:Nat}{ρ2:Nat→Ad}{id:Nat}{o:Ob}{r:Res}(h:RO w0 S0 ρ id o r)(hu:Up n ρ ρ2)(hi:id<n)(ho:∀e cs,o=.bl e cs→∀c∈cs,c.ok n):RO w0 S0 ρ2 id o r:=by
 cases o with
 |bl e cs=>
  obtain⟨vs,rfl,h1,h2⟩:=h
  refine⟨vs,by rw [hu id hi],h1,fun j c hj hk=> ?_⟩
  rw [h2 j c hj hk,SC.up hu (ho e cs rfl c (List.mem_of_getElem? hj))]
 |rw e b t l=>show r=_;rw [hu id hi];exact h
 |ro t l=>exact⟨h.1,by rw [hu id hi];exact h.2⟩
 |br m l=>show r=_;rw [hu id hi];exact h
 |dd m=>trivial
theorem rel_new{L:List Res}{r:Res}{w2:World}{o:Ob}{a:Ad}{S2:St}(hS:Rel C w0 S0 ρ S F w)(hM:Mt w0 S0 ρ S.H L)(hH:Hp w0 S0 (r::L) w2)(hr:RO w0 S0 (adN ρ S.H.length a) S.H.length o r)(hl:o.len=a.ln)(ho:∀e cs,o=.bl e cs→∀c∈cs,c.ok (S.H.length+1))
  (hF:S2.F=S.F) (hH2:S2.H=S.H++[o]):Rel C w0 S0 (adN ρ S.H.length a) S2 F w2:=by
 have ha:∀t,S2.at t=S.at t:=fun t=>by rw [St.at_eq,St.at_eq,hF]
 have hlen:S2.H.length=S.H.length+1:=by rw [hH2];simp
 refine⟨fun g id hg=> ?_,fun t u hu=> ?_,fun t=> ?_,fun id e cs hb c hc=> ?_,⟨L++[r],Hp.rot hH,by simp [hM.1,hlen],fun id o2 h2=> ?_⟩⟩
 ·obtain⟨h1,h2⟩:=hS.gl g id hg
  exact⟨by omega,by rw [adN_up id h1];exact h2⟩
 ·rw [ha,SV.up adN_up (hS.fo t)]at hu
  exact hS.fr t u hu
 ·rw [ha,hlen];exact SV.ok_mono (hS.fo t) (by omega)
 ·rw [hlen]
  rw [hH2]at hb
  by_cases hi:id<S.H.length
  ·rw [List.getElem?_append_left hi]at hb
   exact SC.ok_mono (hS.ho id e cs hb c hc) (by omega)
  ·rw [List.getElem?_append_right (by omega)]at hb
   have:o=.bl e cs:=by
    cases hk:id-S.H.length with
    |zero=>rw [hk]at hb;simpa using hb
    |succ k=>rw [hk]at hb;simp at hb
   exact ho e cs this c hc
 ·rw [hH2]at h2
  by_cases hi:id<S.H.length
  ·rw [List.getElem?_append_left hi]at h2
   obtain⟨h3,r2,h4,h5⟩:=hM.2 id o2 h2
   refine⟨by rw [adN_up id hi];exact h3,r2,by rw [List.getElem?_append_left (by rw [hM.1];exact hi)];exact h4,h5.up adN_up hi fun e cs he=> ?_⟩
   subst he
   exact hS.ho id e cs h2
  ·rw [List.getElem?_append_right (by omega)]at h2
   have hk:id-S.H.length=0:=by
    cases hk:id-S.H.length with
    |zero=>rfl
    |succ k=>rw [hk]at h2;simp at h2
   have hid:id=S.H.length:=by omega
   rw [hk]at h2
   have:o=o2:=by simpa using h2
   subst this
   subst hid
   exact⟨by rw [adN_n];exact hl,r,by rw [List.getElem?_append_right (by rw [hM.1];exact zao _),hM.1];simp,hr⟩
theorem nx_new{o:Ob}{a:Ad}{S2:St}{m:List Rg}(hS:Rel C w0 S0 ρ S F w)(hH2:S2.H=S.H++[o])(hnb:S2.nb=S.nb)(hal:S2.al=S.al)(hm:S2.m=m++S.m):Nx S ρ S2 (adN ρ S.H.length a):=by
 have hle:∀nb al,Le nb al ρ S.H (adN ρ S.H.length a) S2.H:=by
  intro nb al
  rw [hH2]
  refine⟨by simp,adN_up,fun id o2 _ h2=> ?_⟩
  have hi:=(List.getElem?_eq_some_iff.1 h2).1
  rw [List.getElem?_append_left hi,h2]
  cases o2 with
  |bl e cs=>exact .inr ⟨cs,rfl,rfl,fun j c hj=>.inr ⟨c,hj,fun hk=>⟨hk,SC.up adN_up (hS.ho id e cs h2 c (List.mem_of_getElem? hj))⟩⟩⟩
  |rw e b t l=>exact .inr rfl
  |br m l=>exact .inr rfl
  |ro t l=>rfl
  |dd m=>rfl
 exact⟨⟨hnb,hal,hle _ _⟩,hle _ _,fun id j hc=>by rw [hm];exact aia.2 (.inr hc)⟩
end
open Go.Wk
open Go.Ce (Tr)
open List renaming eq_nil_of_length_eq_zero → zap, length_append → zab
open Nat renaming add_comm → zaX, eq_of_beq_eq_true → zag, le_of_ble_eq_true → zaG
section
variable {C : Cx} {md : Md} {w0 w : World} {S0 : List Nat} {ρ : Nat → Ad} {S : St} {F : Nat → Value}
variable {d : Nat} {ty : TypeId} {pos : String} {after : Array Edge}
def adB(b:Nat):Ad:=⟨some b,some ⟨b,0,none⟩,0,false,0⟩
theorem step_blk{op:Op}{cs:List SC}{e:Nat}{x:SC}{V:Nat→Value}(hS:Rel C w0 S0 ρ S F w)(hcs:∀c∈cs,c.ok S.H.length)(hx:x.ok (S.H.length+1))(hp:isPure op=false)
  (hV:∀b,x.v (adN ρ S.H.length (adB b))=V b) (hrun:(execOp (evn md F) (⟨some d,op,ty,pos,after,none⟩:Oper)).run C.P w=.ok (.value (V w.heap.size)) (w.alloc (.cells (cs.map (SC.v ρ)).toArray e (0,0)))):
  Step C md w0 S0 ρ S F w ⟨some d,op,ty,pos,after,none⟩ (St.set ⟨S.F,S.H++[.bl e cs],S.nb,S.al,[]++S.m⟩ d (.c' x)):=by
 intro ops Q rest hk
 obtain⟨L,hH,hM⟩:=hS.mem
 refine w_new hH (cs.map (SC.v ρ)) e V rfl rfl hrun fun b w2 hH2=> ?_
 have h1:Rel C w0 S0 (adN ρ S.H.length (adB b)) ⟨S.F,S.H++[.bl e cs],S.nb,S.al,[]++S.m⟩ F w2:=by
  refine rel_new (o:=.bl e cs) hS hM hH2 ⟨cs.map (SC.v ρ),by rw [adN_n];rfl,by simp,fun j c hj hk=> ?_⟩ rfl (fun e2 cs2 he c hc=> ?_) rfl rfl
  ·rw [List.getElem?_map,hj,SC.up adN_up (hcs c (List.mem_of_getElem? hj))];rfl
  ·cases he;exact SC.ok_mono (hcs c hc) (by omega)
 refine hk _ _ w2 (awl h1 (by show some (x.v _)=_;rw [hV]) (by show x.ok (S.H++[_]).length;simpa using hx)) (nx_new hS rfl rfl rfl rfl) aqp fun d2 _ hp2=> ?_
 rw [show isPure op=true from hp2]at hp;cases hp
theorem step_alloc(hS:Rel C w0 S0 ρ S F w){e:Nat}{ro:Ro}(h:opM C (S.ev C) S.H (.alloc e)=some ro):Step C md w0 S0 ρ S F w ⟨some d,.alloc e,ty,pos,after,none⟩ (St.set ⟨S.F,ro.H,S.nb,S.al,ro.m++S.m⟩ d ro.v):=by
 have h:(match zC C e with
  |some z=>some (Ro.mk [] (.c' (.p' S.H.length 0)) (S.H++[.bl e z]) [])
  |none=>none)=some ro:=h
 split at h
 ·rename_i z hz
  cases h
  obtain⟨zv,h1,h2,h3⟩:=zC_ok hz w
  refine step_blk (V:=fun b=>.pointer (some ⟨b,0,none⟩)) hS (fun c hc i hi=>by rw [(h2 c hc).1]at hi;cases hi) (fun i hi=>by have:i=S.H.length:=List.mem_singleton.1 hi;omega) rfl (fun b=>by show bptr (adN ρ _ _ _).b 0=_;rw [adN_n];rfl) ?_
  have h3:=h3 ρ
  simp [execOp,Instr.alloc,h1,newVar,newRow,h3]
 ·cases h
theorem step_box(hS:Rel C w0 S0 ρ S F w)(hn:C.nn=md.n){e:Nat}{x:Operand}{ro:Ro}(h:opM C (S.ev C) S.H (.box e x)=some ro):Step C md w0 S0 ρ S F w ⟨some d,.box e x,ty,pos,after,none⟩ (St.set ⟨S.F,ro.H,S.nb,S.al,ro.m++S.m⟩ d ro.v):=by
 have h:(match(S.ev C x).cells with
  |some cs=>some (Ro.mk [] (.c' (.p' S.H.length 0)) (S.H++[.bl e cs]) [])
  |none=>none)=some ro:=h
 split at h
 ·rename_i cs hcs
  cases h
  obtain⟨h1,h2⟩:=awz hS hn x
  obtain⟨u,h3,h4⟩:=SV.cells_v (ρ:=ρ) hcs
  have h5:=h2 u h3
  refine step_blk (V:=fun b=>.pointer (some ⟨b,0,none⟩)) hS (SV.cells_ok hcs h1) (fun i hi=>by have:i=S.H.length:=List.mem_singleton.1 hi;omega) rfl (fun b=>by show bptr (adN ρ _ _ _).b 0=_;rw [adN_n];rfl) ?_
  simp [execOp,Instr.box,h5,newVar,newRow,h4]
 ·cases h
theorem repC_len(z:List SC):∀k,(repC z k).length=k*z.length
 |0=>by simp [repC]
 |k+1=>by
  show(z++repC z k).length=_
  rw [zab,repC_len z k,Nat.succ_mul,zaX]
theorem repC_mem{z:List SC}{p:SC→Prop}(hz:∀x∈z,p x):∀k,∀x∈repC z k,p x
 |0,x,h=>by cases h
 |k+1,x,h=>by
  rcases List.mem_append.1 (show x∈z++repC z k from h)with h|h
  ·exact hz x h
  ·exact repC_mem hz k x h
theorem repC_get(z:List SC):∀(k j:Nat),j<k*z.length→(repC z k)[j]? =z[j%z.length]?
 |0,j,h=>by omega
 |k+1,j,h=>by
  show(z++repC z k)[j]? =_
  by_cases hj:j<z.length
  ·rw [List.getElem?_append_left hj,Nat.mod_eq_of_lt hj]
  ·rw [List.getElem?_append_right (by omega),repC_get z k _ (by rw [Nat.succ_mul]at h;omega)]
   rw [←Nat.mod_eq_sub_mod (by omega)]
theorem made_eq{z:List SC}{k:Nat}{a:Array Value}(ha:a=(z.map (SC.v ρ)).toArray):(Array.range (k*z.length)).map (a[·%a.size]!)=((repC z k).map (SC.v ρ)).toArray:=by
 subst ha
 apply Array.ext
 ·simp [repC_len]
 ·intro i h1 h2
  have hi:i<k*z.length:=by simpa using h1
  have hz:0<z.length:=by
   rcases Nat.eq_zero_or_pos z.length with h|h
   ·rw [h]at hi;simp at hi
   ·exact h
  have hg:=repC_get z k i hi
  have hm:i%z.length<z.length:=Nat.mod_lt _ hz
  have hl:i<(repC z k).length:=by rw [repC_len];exact hi
  rw [List.getElem?_eq_getElem hm,List.getElem?_eq_getElem hl]at hg
  have hg':=Option.some.inj hg
  simp only [Array.getElem_map,Array.getElem_range,List.getElem_toArray,List.getElem_map,hg']
  simp [hm]
theorem step_buildSlice(hS:Rel C w0 S0 ρ S F w)(hn:C.nn=md.n){t len:Nat}{ps:Array (Nat×Operand)}{ro:Ro}(h:opM C (S.ev C) S.H (.buildSlice t len ps)=some ro):Step C md w0 S0 ρ S F w ⟨some d,.buildSlice t len ps,ty,pos,after,none⟩ (St.set ⟨S.F,ro.H,S.nb,S.al,ro.m++S.m⟩ d ro.v):=by
 have h:aon C (S.ev C) S.H t len ps.toList=some ro:=h
 unfold aon at h
 split at h
 ·rename_i e he
  split at h
  ·rename_i z n hz hn2
   have h1:=aas h
   have h2:=aas h1.2
   have h3:=h2.2
   split at h3
   ·rename_i cs hcs
    cases h3
    have hzl:z.length=n:=zag h1.1
    have hle:len*n≤100000:=zaG h2.1
    obtain⟨zv,h4,h5,h6⟩:=zC_ok hz w
    have h6:=h6 ρ
    obtain⟨h7,h8,h9⟩:=fillP_ok (ρ:=ρ) (md:=md) (F:=F) (k:=S.H.length) ps.toList (repC z len) cs (fun p _=>awz hS hn p.2) (repC_mem (fun c hc i hi=>by rw [(h5 c hc).1]at hi;cases hi) len) hcs
    have hparts:(ps.map fun p=>(p.1,evn md F p.2)).toList=ps.toList.map fun p=>(p.1,evn md F p.2):=by simp
    refine step_blk (V:=fun b=>.slice (some ⟨b,0,none⟩) len len) hS h9 (fun i hi=>by have:i=S.H.length:=List.mem_singleton.1 hi;omega) rfl (fun b=>by show Value.slice (some ⟨(adN ρ _ _ _).b,0,none⟩) len len=_;rw [adN_n];rfl) ?_
    have h16:¬len*n>2^24:=by omega
    have hmk:∀a:Array Value,(len*n≠0→a=(z.map (SC.v ρ)).toArray)→(Array.range (len*n)).map (a[·%a.size]!)=((repC z len).map (SC.v ρ)).toArray:=by
     intro a ha
     by_cases h0:len*n=0
     ·have hl:(repC z len).length=0:=by rw [repC_len,hzl,h0]
      have:repC z len=[]:=zap hl
      rw [h0,this];simp
     ·rw [←hzl];exact made_eq (ha h0)
    by_cases h0:len*n=0
    ·have hm:=hmk #[] (fun h=>absurd h0 h)
     simp only [execOp,Instr.buildSlice,Sem.run_bind,run_underlying (oSl he),Result.andThen_ok,oSz hn2 w]
     rw [if_neg h16,if_pos h0]
     simp only [Sem.run_bind,Sem.run_pure,Result.andThen_ok]
     rw [hparts,hm,h7]
     simp [newRow]
    ·have hm:=hmk zv.cells (fun _=>h6)
     simp only [execOp,Instr.buildSlice,Sem.run_bind,run_underlying (oSl he),Result.andThen_ok,oSz hn2 w]
     rw [if_neg h16,if_neg h0]
     simp only [Sem.run_bind,h4,Sem.run_pure,Result.andThen_ok]
     rw [hparts,hm,h7]
     simp [newRow]
   ·cases h3
  ·cases h
 ·cases h
end
end Go.Oe
