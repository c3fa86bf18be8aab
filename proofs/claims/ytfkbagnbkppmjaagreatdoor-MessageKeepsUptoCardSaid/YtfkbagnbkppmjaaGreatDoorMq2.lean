/-
  The law MessageKeeps holds for a message and texts of at most 1048576 letters together (part 2 of 8).
-/
import Derived.Test.YtfkbagnbkppmjaaGreatDoorMq1
import Derived.Lib.SplitLaws
import Derived.Lib.Split
import Derived.OrdersIn
import Derived.Laws.IdiomCopy
set_option linter.constructorNameAsVariable false
set_option linter.unusedSimpArgs false
set_option linter.unusedVariables false
def _root_.Go.Wk.loopF{σ ρ:Type}(f:(σ->Option ρ)->σ->Option ρ):Nat->σ->Option ρ
 |0,_=>none
 |n+1,v=>f (Go.Wk.loopF f n) v
namespace Go.Px
open Go.Wk
def spl(c:UInt8):List UInt8->List (List UInt8)
 |[]=>[[]]
 |b::l=>if b=c then []::spl c l else match spl c l with|x::r=>(b::x)::r|[]=>[[b]]
theorem spl_ne(c:UInt8):∀l,spl c l≠[]
 |[]=>by simp [spl]
 |b::l=>by unfold spl;split;simp;split<;>simp
theorem splitK_spl(c:UInt8):∀(s:List UInt8) (k:Nat),s.count c<=k->Lib.splitK [c] 0 k s=spl c s
 |[],k,_=>by cases k<;>simp [Lib.splitK,Lib.index,spl]
 |b::l,k,h=>by
  by_cases hb:b=c
  ·subst hb;obtain⟨k,rfl⟩:∃j,k=j+1:=⟨k-1,by simp at h;omega⟩
   have ih:=splitK_spl b l k (by simp at h;omega);simp [Lib.splitK,Lib.index,spl,ih]
  ·have hc:(b::l).count c=l.count c:=by simp [List.count_cons,hb]
   rw [hc]at h;have ih:=splitK_spl c l k h;unfold spl;rw [if_neg hb,<-ih];cases k with
   |zero=>simp [Lib.splitK]
   |succ k=>
    have hi:Lib.index (b::l) [c]=if Lib.index l [c]== -1 then-1 else Lib.index l [c]+1:=by
     conv=>lhs;unfold Lib.index
     rw [if_neg (by simp;exact fun h=>hb h.symm)]
    have hg:=Lib.index_ge l [c];unfold Lib.splitK;rw [hi];by_cases h1:Lib.index l [c]= -1
    ·simp [h1]
    ·have h2:¬(Lib.index l [c]+1)= -1:=by omega
     have h3:(Lib.index l [c]+1).toNat=(Lib.index l [c]).toNat+1:=by omega
     simp [h1,h2,h3]
theorem split_spl(s:List UInt8)(c:UInt8):(Lib.splitB ⟨#[c]⟩ 0 (Lib.countB ⟨s.toArray⟩ ⟨#[c]⟩) ⟨s.toArray⟩).map Value.string=(spl c s).map str:=by
 have h:=Lib.splitB_data ⟨#[c]⟩ 0 (Lib.countB ⟨s.toArray⟩ ⟨#[c]⟩) ⟨s.toArray⟩;have e:Lib.splitK [c] 0 (Lib.countB ⟨s.toArray⟩ ⟨#[c]⟩) s=spl c s:=splitK_spl c s _ (Nat.le_of_eq (Lib.count_one c s).symm);have h':(Lib.splitB ⟨#[c]⟩ 0 (Lib.countB ⟨s.toArray⟩ ⟨#[c]⟩) ⟨s.toArray⟩).map (·.data.toList)=spl c s:=h.trans e;rw [<-h',List.map_map];refine List.map_congr_left fun x _=> ?_
 rfl
theorem split_spl_len(s:List UInt8)(c:UInt8):Lib.countB ⟨s.toArray⟩ ⟨#[c]⟩+1=(spl c s).length:=by
 have:∀s:List UInt8,s.count c+1=(spl c s).length:=by
  intro s;induction s with
  |nil=>rfl
  |cons b l ih=>
   unfold spl;by_cases hb:b=c
   ·subst hb;simp;omega
   ·rw [if_neg hb];have hc:(b::l).count c=l.count c:=by simp [List.count_cons,hb]
    rw [hc,ih];split
    ·rename_i h;rw [h];simp
    ·rename_i h;exact absurd h (spl_ne c l)
 show Lib.count s [c]+1=_;rw [Lib.count_one,this]
theorem spl_sum(c:UInt8):∀s:List UInt8,(spl c s).length<=s.length+1/\∀x∈spl c s,x.length<=s.length
 |[]=>by simp [spl]
 |b::l=>by
  have ih:=spl_sum c l;unfold spl;split
  ·simp;exact⟨ih.1,fun x hx=>by have:=ih.2 x hx;omega⟩
  ·split
   ·rename_i x r h;rw [h]at ih;simp at ih⊢
    exact⟨by omega,by omega,fun a ha=>by have:=ih.2.2 a ha;omega⟩
   ·simp
theorem row_strs{w:World}(a:Addr)(xs:List (List UInt8))(h:Rd w (some a) (xs.map str)):∀(j:Nat) x,(xs.map fun l=>(⟨l.toArray⟩:ByteArray))[j]? =some x->w.cell? (a.add j)=some (.string x):=by
 intro j x hx;simp only [List.getElem?_map,Option.map_eq_some_iff]at hx;obtain⟨l,hl,rfl⟩:=hx;obtain⟨p,e,hc⟩:=h j (str l) (by simp [hl]);cases e
 exact hc
theorem rd_spot{w:World}{p:Addr}{v:Value}(h:w.cell? p=some v):p.spot=none:=by
 unfold World.cell? at h;split at h
 ·by_cases hs:p.spot.isSome=true
  ·simp [hs]at h
  ·simpa using hs
 ·simp at h
theorem el_mem'{α:Type}[Inhabited α](l:List α)(k:Nat)(h:k<l.length):el l (k:Int)∈l:=by rw [el_nat l k h];exact List.getElem_mem h
end Go.Px
namespace Go.Wk
open Go.Px
open Go.Value renaming slice -> Vs, int -> Vi, bool -> Vb, pointer -> Vp
def aaa(x:(Str×Str)):List Value:=[(str x.1),(str x.2)]
theorem aad:Enc aaa 2:=⟨fun _=>rfl,fun x v h=>by
 simp only [aaa,List.mem_cons,List.not_mem_nil,or_false]at h;rcases h with h|h<;>subst h<;>rfl⟩
def ais(x:(Str×Int)):List Value:=[(str x.1),(Vi .i64 x.2)]
theorem enc_enamekind:Enc ais 2:=⟨fun _=>rfl,fun x v h=>by
 simp only [ais,List.mem_cons,List.not_mem_nil,or_false]at h;rcases h with h|h<;>subst h<;>rfl⟩
def afu(x:(Int×Str)):List Value:=[(Vi .i64 x.1),(str x.2)]
theorem aju:Enc afu 2:=⟨fun _=>rfl,fun x v h=>by
 simp only [afu,List.mem_cons,List.not_mem_nil,or_false]at h;rcases h with h|h<;>subst h<;>rfl⟩
def ada:List Str:=[[67,97,108,108,45,73,68],[67,83,101,113],[77,73,77,69,45,86,101,114,115,105,111,110],[77,105,110,45,83,69],[82,65,99,107],[82,83,101,113],[87,87,87,45,65,117,116,104,101,110,116,105,99,97,116,101]]
def acn:List (Str×Int):=[([70,114,111,109],1),([84,111],1),([67,111,110,116,97,99,116],1),([82,111,117,116,101],1),([82,101,99,111,114,100,45,82,111,117,116,101],1),([80,97,116,104],1),([83,101,114,118,105,99,101,45,82,111,117,116,101],1),([82,101,102,101,114,45,84,111],1),([82,101,102,101,114,114,101,100,45,66,121],1),([82,101,112,108,121,45,84,111],1),([86,105,97],2),([67,83,101,113],3),([82,65,99,107],4),([67,111,110,116,101,110,116,45,76,101,110,103,116,104],5),([69,120,112,105,114,101,115],5),([77,97,120,45,70,111,114,119,97,114,100,115],5),([77,105,110,45,69,120,112,105,114,101,115],5),([82,83,101,113],5),([67,111,110,116,101,110,116,45,68,105,115,112,111,115,105,116,105,111,110],6),([67,111,110,116,101,110,116,45,84,121,112,101],6),([69,118,101,110,116],6),([77,105,110,45,83,69],6),([83,101,115,115,105,111,110,45,69,120,112,105,114,101,115],6),([83,117,98,115,99,114,105,112,116,105,111,110,45,83,116,97,116,101],6),([65,99,99,101,112,116],7),([65,108,108,111,119],7),([65,108,108,111,119,45,69,118,101,110,116,115],7),([80,114,111,120,121,45,82,101,113,117,105,114,101],7),([82,101,113,117,105,114,101],7),([83,117,112,112,111,114,116,101,100],7),([85,110,115,117,112,112,111,114,116,101,100],7)]
open Bool renaming and_eq_true -> zas
open List renaming length_cons -> zaf, replicate -> zag
open Nat renaming blt -> zay, zero_add -> zaT
def NoD(ops:Array Oper):Prop:=∀(j:Nat) (o:Oper) c,ops[j]? =some o->o.op≠.defer c
def NoPD(ops:Array Oper)(Q:Exit->Act->World->Prop):Prop:=NoP Q/\NoD ops
section
variable {P : Program} {ops : Array Oper} {Q : Exit -> Act -> World -> Prop} {md : Region.Mode} {S : Nat -> World -> World -> Prop} {x : Option Nat}
theorem ajj{x:Option Nat}{o:Oper}{w:World}{ρ:Operand->Value}:∀f,o.about P w ρ=some f->(fen x).fn f:=fun _ _=>trivial
theorem _root_.Go.YieldsIf.wpOpI{Si:World->Prop}{i:Nat}{o:Oper}{v:Value}{a:Act}{w:World}(hi:ops[i]? =some o)(hd:∀c,o.op≠.defer c)(hS:Si w){K:Act->World->Prop}(hy:YieldsIf P ops Si o v a)(h:K (a.put o.dst v) w):wpOpIn (fen x) 0 P ops Q i K a w:=by
 unfold wpOpIn;simp only [hi];rcases hy with⟨hw,hv⟩|⟨hw,rfl⟩
 ·simp only [hw,if_true,Oper.wpIn,Oper.semAt_eq _ _ _ hd,hv w hS,Oper.uponIn];exact⟨ajj,h⟩
 ·simp only [hw,Bool.false_eq_true,if_false];exact⟨ajj,h⟩
theorem wpOpIn_putIf{Si:World->Prop}{j:Nat}{oi oj:Oper}{v:Value}(hj:ops[j]? =some oj)(hap:oi.apart ops oj=true)
  (hsi:∀cs b,oi.op≠.select cs b) (hsj:∀cs b,oj.op≠.select cs b) (hdj:∀c,oj.op≠.defer c)
  (hQ:∀c a w,Q (.panic c) (a.put oi.dst v) w->Q (.panic c) a w) {K:Act->World->Prop} {a:Act} {w:World}
  (hy:YieldsIf P ops Si oi v a) (h:wpOpIn (fen x) 0 P ops Q j K (a.put oi.dst v) w):
  wpOpIn (fen x) 0 P ops Q j (fun a' w'=>YieldsIf P ops Si oi v a'/\K (a'.put oi.dst v) w') a w:=by
 obtain⟨h1,h2,h3⟩:=Oper.apart_spec hap;have keep:∀(a:Act),YieldsIf P ops Si oi v a->∀u,YieldsIf P ops Si oi v (a.put oj.dst u):=fun a hy u=>
  hy.of_same (execOp_put oi hsi a oj.dst u h3) (wanted_put oi a oj.dst u h3)
 have keepD:∀d,YieldsIf P ops Si oi v {a with defers:=d::a.defers}:=fun d=>hy.of_same rfl rfl
 unfold wpOpIn at*;simp only [hj]at*;rw [wanted_put oj a oi.dst v h1]at h;split
 ·rename_i hw;simp only [hw,if_true]at h;unfold Oper.wpIn at*;refine⟨ajj, ?_⟩
  have h:=h.2;rw [Oper.semAt_eq _ _ _ hdj,execOp_put oj hsj a oi.dst v h1]at h;rw [Oper.semAt_eq _ _ _ hdj]
  generalize(execOp a.eval oj).run P w=r at*
  cases r with
  |ok y w'=>
   cases y<;>simp only [Oper.uponIn]at h⊢
   case value u=>exact⟨keep a hy u,by rw [<-Act.put_comm a v u h2];exact h⟩
   case skip=>exact⟨keep a hy _,by rw [<-Act.put_comm a v undef h2];exact h⟩
   case defer d=>
    refine⟨keep _ (keepD d) _, ?_⟩
    rw [<-Act.put_comm _ v undef h2,<-Act.put_defers];exact h
   case enter f args=>
    refine⟨h.1,CallsIn.mono h.2 fun e w'' he=> ?_⟩
    cases e with
    |returned u=>exact⟨keep a hy u,by rw [<-Act.put_comm a v u h2];exact he⟩
    |panicked c=>exact hQ _ _ _ he
    |outgrown=>exact he
   case row row args=>exact⟨h.1,RowsIn.mono h.2 fun u w'' he=>⟨keep a hy u,by rw [<-Act.put_comm a v u h2];exact he⟩⟩
   case round l f tmps assign body=>
    refine⟨h.1,RoundIn.mono h.2 fun e w'' he=> ?_⟩
    cases e with
    |returned u=>exact⟨keep a hy u,by rw [<-Act.put_comm a v u h2];exact he⟩
    |panicked c=>exact hQ _ _ _ he
    |outgrown=>exact he
  |halt y w'=>
   cases y<;>simp only [Oper.uponIn]at h⊢
   case panic u=>exact hQ _ _ _ h
 ·rename_i hw;simp only [hw]at h;exact⟨ajj,keep a hy _,by rw [<-Act.put_comm a v undef h2];exact h.2⟩
theorem wpAnyIn_of_seq{Q':Exit->Act->World->Prop}:∀(l:List Oper) (k:Nat) (listed:Array Bool) (a:Act) (w:World),(∀j,l[j]? =ops[k+j]?)->
  Region.seqB md ops l.length k listed=true->wpListIn (fen x) 0 P ops Q' l a w->wpAnyIn (fen x) 0 P md ops Q' l.length listed a w
 |[],_,_,_,_,_,hB,h=>⟨by simpa [Region.seqB] using hB,h⟩
 |o::l,k,listed,a,w,hl,hB,h=>by
  have h0:ops[k]? =some o:=by simpa using (hl 0).symm
  simp only [zaf,Region.seqB,zas,decide_eq_true_eq]at hB;refine⟨fun h1=>(by rw [hB.1]at h1;cases h1),fun i hi=> ?_⟩
  rw [hB.1]at hi;have hik:i=k:=by simpa using hi
  subst hik;have hw:wpOpIn (fen x) 0 P ops Q' i (wpListIn (fen x) 0 P ops Q' l) a w:=by
   unfold wpOpIn;simp only [h0];unfold wpListIn at h;exact h
  exact wpOpIn_mono (fun a' w' h'=>wpAnyIn_of_seq l (i+1) _ a' w' (fun j=>by have:=hl (j+1);simpa [Nat.add_assoc,Nat.add_comm 1 j] using this) hB.2 h') hw
def wpPreI(x:Option Nat)(P:Program)(md:Region.Mode)(ops:Array Oper)(Q:Exit->Act->World->Prop)(S:Nat->World->World->Prop)(k:Nat)(Z:Act->World->Prop):Nat->Array Bool->Act->World->Prop
 |0,listed,a,w=>Region.seqB md ops (ops.size-k) k listed=true/\Z a w
 |f+1,listed,a,w=>Region.ready md ops listed≠[]/\∀i∈Region.ready md ops listed,i<k/\wpOpIn (fen x) 0 P ops Q i (fun a' w'=>S i w w'/\wpPreI x P md ops Q S k Z f (listed.setIfInBounds i true) a' w') a w
theorem preI_any{k:Nat}{Z:Act->World->Prop}(hk:k<=ops.size)(hZ:∀a w,Z a w->wpListIn (fen x) 0 P ops Q (ops.toList.drop k) a w):
  ∀(f:Nat) (listed:Array Bool) (a:Act) (w:World),wpPreI x P md ops Q S k Z f listed a w->wpAnyIn (fen x) 0 P md ops Q (f+(ops.size-k)) listed a w
 |0,listed,a,w,h=>by
  have hl:(ops.toList.drop k).length=ops.size-k:=by simp
  have:=wpAnyIn_of_seq (md:=md) (Q':=Q) (ops.toList.drop k) k listed a w (fun j=>by simp [List.getElem?_drop]) (by rw [hl];exact h.1) (hZ a w h.2)
  rw [hl]at this;rw [zaT];exact this
 |f+1,listed,a,w,h=>by
  rw [show f+1+(ops.size-k)=(f+(ops.size-k))+1 by omega];exact⟨fun h0=>absurd h0 h.1,fun i hi=>wpOpIn_mono (fun a' w' h'=>preI_any hk hZ f _ a' w' h'.2) (h.2 i hi).2⟩
theorem preI_first{k i:Nat}{Z:Act->World->Prop}{oi:Oper}{v:Value}(Si:World->Prop)(D:List Nat)(hD:descB md ops i D=true)(hSi:∀j w w',S j w w'->abp D Si j w w')(hi:ops[i]? =some oi)(hsel:∀(j:Nat) (o:Oper) cs b,ops[j]? =some o->o.op≠.select cs b)
  (hQ:∀c a w,Q (.panic c) (a.put oi.dst v) w->Q (.panic c) a w) (hnd:NoD ops) (hik:i<k)
  (hready:∀listed:Array Bool,HeadInv md ops k listed->listed.getD i true=false->∀t,k<=t->t∉Region.ready md ops listed):
  ∀(f:Nat) (listed:Array Bool) (a:Act) (w:World),HeadInv md ops k listed->
   (∀j oj,ops[j]? =some oj->j≠i->listed.getD j true=false->(∀e∈oj.after,Region.binds md e=true->e.on≠i)->oi.apart ops oj=true)->
   i∈Region.ready md ops listed->YieldsIf P ops Si oi v a->Si w->(∀j w,S j w w)->
   wpPreI x P md ops Q S k Z f (listed.setIfInBounds i true) (a.put oi.dst v) w->wpPreI x P md ops Q S k Z (f+1) listed a w:=by
 intro f;induction f with
 |zero=>
  intro listed a w inv hfree hr hy hS hii H;have hun:=(mem_ready.1 hr).1;refine⟨fun h0=>(by rw [h0]at hr;cases hr),fun j hj=> ?_⟩
  have hjk:j<k:=by
   rcases Nat.lt_or_ge j k with h|h
   ·exact h
   ·exact absurd hj (hready listed inv hun j h)
  by_cases hji:j=i
  ·subst hji;exact⟨hjk,hy.wpOpI hi (fun c=>hnd j oi c hi) hS ⟨hii _ _,H⟩⟩
  ·have h1:=seqB_ready H.1 j (ready_mono hj hji);omega
 |succ f ih=>
  intro listed a w inv hfree hr hy hS hii H;have hun:=(mem_ready.1 hr).1;refine⟨fun h0=>(by rw [h0]at hr;cases hr),fun j hj=> ?_⟩
  have hjk:j<k:=by
   rcases Nat.lt_or_ge j k with h|h
   ·exact h
   ·exact absurd hj (hready listed inv hun j h)
  by_cases hji:j=i
  ·subst hji;exact⟨hjk,hy.wpOpI hi (fun c=>hnd j oi c hi) hS ⟨hii _ _,H⟩⟩
  ·have h1:=(H.2 j (ready_mono hj hji)).2;have hjD:=desc_ready hD inv hun hj;obtain⟨hjun,oj,hoj,hall⟩:=mem_ready.1 hj;have hnot:∀e∈oj.after,Region.binds md e=true->e.on≠i:=fun e he hb heq=>by
    have h2:=hall e he hb;rw [heq,getD_both hun]at h2;cases h2
   have h2:=wpOpIn_putIf hoj (hfree j oj hoj hji hjun hnot) (fun cs b=>hsel i oi cs b hi) (fun cs b=>hsel j oj cs b hoj) (fun c=>hnd j oj c hoj) hQ hy h1;refine⟨hjk,wpOpIn_mono (fun a' w' h3=>⟨h3.2.1,ih (listed.setIfInBounds j true) a' w' (inv.set hj hjk) (fun m om hm hmi hum hno=>hfree m om hm hmi ?_ hno) (ready_mono hr (Ne.symm hji)) h3.1 (hSi j _ w' h3.2.1 (by simpa using hjD) hS) hii ?_⟩) h2⟩
   ·by_cases hjm:j=m
    ·subst hjm;exact hjun
    ·rw [getD_set_ne true hjm]at hum;exact hum
   ·rw [Array.setIfInBounds_comm _ _ hji];exact h3.2.2
end
section
variable {P : Program} {kn : Nat} {kD : List Deferred} {ops : Array Oper} {Q : Exit -> Act -> World -> Prop} {S : Nat -> World -> World -> Prop} {Si : World -> Prop} {F : Nat -> Value} {w : World} {x : Option Nat}
def RI(x:Option Nat)(P:Program)(n:Md)(ops:Array Oper)(Q:Exit->Act->World->Prop)(S:Nat->World->World->Prop)(k f:Nat)(listed:List Bool)(F:Nat->Value)(w:World):Prop:=
 HeadInv .any ops k listed.toArray->(∀j w,S j w w)->NoPD ops Q->wpPreI x P .any ops Q S k (fun a w=>wpListIn (fen x) 0 P ops Q (ops.toList.drop k) a w) f listed.toArray (fr n F) w
def RKI(x:Option Nat)(P:Program)(n:Md)(ops:Array Oper)(Q:Exit->Act->World->Prop)(S:Nat->World->World->Prop)(k f:Nat)(listed:List Bool)(i:Nat)(w:World):Exit->Act->World->Prop:=
 Exit.then (fun a' w'=>∃F',a'=fr n F'/\S i w w'/\RI x P n ops Q S k f listed F' w') Q
theorem c_drawnI{w0:World}{S0:List Nat}{L:List Res}{id:Nat}{l:List Oper}(k:Nat)(S:Nat->World->World->Prop)(listed:List Bool)(hrefl:∀j w,S j w w)(hm:P.follows .mixedOrders=true)(hs:aft l.toArray k=true)
  (hH:Hp w0 S0 L w) (hl:zag l.length false=listed) (hQ:NoPD l.toArray Q) (h:∀w',Hp w0 S0 L w'->RI x P ⟨kn,kD,some x⟩ l.toArray Q S k k listed F w'):C P ⟨kn,kD,some x⟩ Q (.region id l.toArray true) F w:=by
 unfold C CC;have hk:k<=l.toArray.size:=by
  simp only [aft,zas,decide_eq_true_eq]at hs;exact hs.1.2
 have inv0:HeadInv .any l.toArray k (Array.replicate l.toArray.size false):=
  ⟨by simp,fun j oj _ hl=>(by rw [getD_replicate_false]at hl;cases hl),fun t _ ht=>getD_in (by simpa using ht) (getD_replicate_false _ _)⟩
 have e:listed.toArray=Array.replicate l.toArray.size false:=by
  subst hl;apply Array.toList_inj.1
  simp
 refine wpIn_region_any hm ?_;have h1:=h _ hH.drewn (by rw [e];exact inv0) hrefl hQ;have h2:=preI_any (S:=S) hk (fun a w h=>h) k _ _ _ h1;rw [e,show k+(l.toArray.size-k)=l.toArray.size by omega]at h2;exact h2
theorem rI_takeS{k f:Nat}{listed:List Bool}(listed':List Bool)(i d:Nat)(v:Value)(D:List Nat)(hSi:∀j w w',S j w w'->abp D Si j w w')(o:Oper)(ho:ops[i]? =some o)(hd:o.dst=some d)(hs:aft ops k=true)(hD:descB .any ops i D=true)(hfree:Region.free .any ops listed.toArray i=true)
  (hr:(Region.ready .any ops listed.toArray).contains i=true) (hik:zay i k=true) (hl:listed.set i true=listed') (hy:YieldsIf P ops Si o v (fr ⟨kn,kD,some x⟩ F)) (hS:Si w)
  (h:RI x P ⟨kn,kD,some x⟩ ops Q S k f listed' (upd F d v) w):RI x P ⟨kn,kD,some x⟩ ops Q S k (f+1) listed F w:=by
 intro inv hrefl hQ;have hik':i<k:=by simpa [Nat.blt_eq] using hik
 have hr':i∈Region.ready .any ops listed.toArray:=by simpa using hr
 have hsel:Region.noSelect ops=true:=by
  simp only [aft,zas]at hs;exact hs.1.1
 refine preI_first Si D hD hSi ho (Region.noSelect_spec hsel) (fun c a w h=>absurd h (hQ.1 c _ w)) hQ.2 hik' (shape_ready hs hik') f _ _ _ inv (Region.free_spec ho hfree) hr' hy hS hrefl ?_;have inv':=inv.set hr' hik';rw [set_listed,hl]at inv'⊢
 have:=h inv' hrefl hQ
 rw [<-fr_put,<-hd]at this;exact this
theorem opI_of_list{i:Nat}{o:Oper}{K:Act->World->Prop}{a:Act}(ho:ops[i]? =some o)(h:wpListIn (fen x) 0 P ops (Exit.then K Q) [o] a w):wpOpIn (fen x) 0 P ops Q i K a w:=by
 unfold wpOpIn;simp only [ho];unfold wpListIn at h;split
 ·rename_i hw;rw [if_pos hw]at h;unfold Oper.wpIn at*;refine⟨h.1, ?_⟩
  have h:=h.2
  generalize(o.semAt (fen x).round a.eval).run P w=r at*
  cases r with
  |ok y w'=>cases y<;>exact h
  |halt y w'=>cases y<;>exact h
 ·rename_i hw;rw [if_neg hw]at h;exact h
theorem rI_step{k f:Nat}{listed:List Bool}(listed':List Bool)(i:Nat)(o:Oper)(ho:ops[i]? =some o)(hl:listed.set i true=listed')(inv:HeadInv .any ops k listed.toArray)(hrefl:∀j w,S j w w)(hQ:NoPD ops Q)
  (hr:i∈Region.ready .any ops listed.toArray) (hik:i<k) (h:W P ⟨kn,kD,some x⟩ ops (RKI x P ⟨kn,kD,some x⟩ ops Q S k f listed' i w) [o] F w):
  i<k/\wpOpIn (fen x) 0 P ops Q i (fun a' w'=>S i w w'/\wpPreI x P .any ops Q S k (fun a w=>wpListIn (fen x) 0 P ops Q (ops.toList.drop k) a w) f (listed.toArray.setIfInBounds i true) a' w') (fr ⟨kn,kD,some x⟩ F) w:=by
 refine⟨hik, ?_⟩
 have inv':=inv.set hr hik;rw [set_listed,hl]at inv'⊢;unfold W WR RKI at h;refine wpOpIn_mono ?_ (opI_of_list ho h);rintro a' w' ⟨F',rfl,hS,hR⟩
 exact⟨hS,hR inv' hrefl hQ⟩
theorem rI_one1{k f:Nat}{listed:List Bool}(listed':List Bool)(i:Nat)(o:Oper)(ho:ops[i]? =some o)(hr:Region.ready .any ops listed.toArray=[i])(hik:zay i k=true)(hl:listed.set i true=listed')
  (h:W P ⟨kn,kD,some x⟩ ops (RKI x P ⟨kn,kD,some x⟩ ops Q S k f listed' i w) [o] F w):RI x P ⟨kn,kD,some x⟩ ops Q S k (f+1) listed F w:=by
 intro inv hrefl hQ;refine⟨by rw [hr];simp,fun j hj=> ?_⟩
 rw [hr]at hj;obtain rfl:j=i:=by simpa using hj
 exact rI_step listed' j o ho hl inv hrefl hQ (by rw [hr];simp) (by simpa [Nat.blt_eq] using hik) h
theorem rI_one2{k f:Nat}{listed:List Bool}(l1 l2:List Bool)(i j:Nat)(o o':Oper)(ho:ops[i]? =some o)(ho':ops[j]? =some o')(hr:Region.ready .any ops listed.toArray=[i,j])(hik:zay i k=true)(hjk:zay j k=true)
  (hl:listed.set i true=l1) (hl':listed.set j true=l2)
  (h:W P ⟨kn,kD,some x⟩ ops (RKI x P ⟨kn,kD,some x⟩ ops Q S k f l1 i w) [o] F w) (h':W P ⟨kn,kD,some x⟩ ops (RKI x P ⟨kn,kD,some x⟩ ops Q S k f l2 j w) [o'] F w):RI x P ⟨kn,kD,some x⟩ ops Q S k (f+1) listed F w:=by
 intro inv hrefl hQ;refine⟨by rw [hr];simp,fun m hm=> ?_⟩
 have hm':=hm;rw [hr]at hm'
 have:m=i\/m=j:=by simpa using hm'
 rcases this with rfl|rfl
 ·exact rI_step l1 m o ho hl inv hrefl hQ hm (by simpa [Nat.blt_eq] using hik) h
 ·exact rI_step l2 m o' ho' hl' inv hrefl hQ hm (by simpa [Nat.blt_eq] using hjk) h'
theorem rI_next{k f i:Nat}{w0:World}{listed:List Bool}(hS:S i w0 w)(h:RI x P ⟨kn,kD,some x⟩ ops Q S k f listed F w):RKI x P ⟨kn,kD,some x⟩ ops Q S k f listed i w0 .normal (fr ⟨kn,kD,some x⟩ F) w:=⟨F,rfl,hS,h⟩
theorem rI_zero{k:Nat}{listed:List Bool}(hseq:Region.seqB .any ops (ops.size-k) k listed.toArray=true)(h:W P ⟨kn,kD,some x⟩ ops Q (ops.toList.drop k) F w):RI x P ⟨kn,kD,some x⟩ ops Q S k 0 listed F w:=by
 intro _ _ _;unfold W WR at h;exact⟨hseq,h⟩
end
section
variable {P : Program} {kn : Nat} {kD : List Deferred} {ro : Option (Option Nat)} {ops : Array Oper} {Q : Exit -> Act -> World -> Prop} {S : Nat -> World -> World -> Prop} {Si : World -> Prop} {F : Nat -> Value} {w : World}
def RO(P:Program)(n:Md)(ops:Array Oper)(Q:Exit->Act->World->Prop)(S:Nat->World->World->Prop)(k f:Nat)(listed:List Bool)(F:Nat->Value)(w:World):Prop:=
 match n.ro with
 |none=>R P n ops Q S k f listed F w
 |some x=>RI x P n ops Q S k f listed F w
def RKO(P:Program)(n:Md)(ops:Array Oper)(Q:Exit->Act->World->Prop)(S:Nat->World->World->Prop)(k f:Nat)(listed:List Bool)(i:Nat)(w:World):Exit->Act->World->Prop:=
 match n.ro with
 |none=>RK P n ops Q S k f listed i w
 |some x=>RKI x P n ops Q S k f listed i w
theorem c_drawnO{w0:World}{S0:List Nat}{L:List Res}{id:Nat}{l:List Oper}(k:Nat)(S:Nat->World->World->Prop)(listed:List Bool)(hrefl:∀j w,S j w w)(hm:P.follows .mixedOrders=true)(hs:aft l.toArray k=true)
  (hH:Hp w0 S0 L w) (hl:zag l.length false=listed) (hQ:NoP Q) (hD:ro.isSome=true->NoD l.toArray) (h:∀w',Hp w0 S0 L w'->RO P ⟨kn,kD,ro⟩ l.toArray Q S k k listed F w'):C P ⟨kn,kD,ro⟩ Q (.region id l.toArray true) F w:=by
 cases ro with
 |none=>exact afm k S listed hrefl hm hs hH hl hQ h
 |some x=>exact c_drawnI k S listed hrefl hm hs hH hl ⟨hQ,hD rfl⟩ h
theorem rO_takeS{k f:Nat}{listed:List Bool}(listed':List Bool)(i d:Nat)(v:Value)(D:List Nat)(hSi:∀j w w',S j w w'->abp D Si j w w')(o:Oper)(ho:ops[i]? =some o)(hd:o.dst=some d)(hs:aft ops k=true)(hD:descB .any ops i D=true)(hfree:Region.free .any ops listed.toArray i=true)
  (hr:(Region.ready .any ops listed.toArray).contains i=true) (hik:zay i k=true) (hl:listed.set i true=listed') (hy:YieldsIf P ops Si o v (fr ⟨kn,kD,ro⟩ F)) (hS:Si w)
  (h:RO P ⟨kn,kD,ro⟩ ops Q S k f listed' (upd F d v) w):RO P ⟨kn,kD,ro⟩ ops Q S k (f+1) listed F w:=by
 cases ro with
 |none=>exact abr listed' i d v D hSi o ho hd hs hD hfree hr hik hl hy hS h
 |some x=>exact rI_takeS listed' i d v D hSi o ho hd hs hD hfree hr hik hl hy hS h
theorem rO_take{k f:Nat}{listed:List Bool}(listed':List Bool)(i d:Nat)(v:Value)(o:Oper)(ho:ops[i]? =some o)(hd:o.dst=some d)(hs:aft ops k=true)(hfree:Region.free .any ops listed.toArray i=true)
  (hr:(Region.ready .any ops listed.toArray).contains i=true) (hik:zay i k=true) (hl:listed.set i true=listed') (hy:YieldsIf P ops (fun _=>True) o v (fr ⟨kn,kD,ro⟩ F))
  (h:RO P ⟨kn,kD,ro⟩ ops Q S k f listed' (upd F d v) w):RO P ⟨kn,kD,ro⟩ ops Q S k (f+1) listed F w:=
 rO_takeS (Si:=fun _=>True) listed' i d v [] (fun _ _ _ _ _ _=>trivial) o ho hd hs rfl hfree hr hik hl hy trivial h
theorem rO_one1{k f:Nat}{listed:List Bool}(listed':List Bool)(i:Nat)(o:Oper)(ho:ops[i]? =some o)(hr:Region.ready .any ops listed.toArray=[i])(hik:zay i k=true)(hl:listed.set i true=listed')
  (h:W P ⟨kn,kD,ro⟩ ops (RKO P ⟨kn,kD,ro⟩ ops Q S k f listed' i w) [o] F w):RO P ⟨kn,kD,ro⟩ ops Q S k (f+1) listed F w:=by
 cases ro with
 |none=>exact r_one1 listed' i o ho hr hik hl h
 |some x=>exact rI_one1 listed' i o ho hr hik hl h
theorem rO_one2{k f:Nat}{listed:List Bool}(l1 l2:List Bool)(i j:Nat)(o o':Oper)(ho:ops[i]? =some o)(ho':ops[j]? =some o')(hr:Region.ready .any ops listed.toArray=[i,j])(hik:zay i k=true)(hjk:zay j k=true)
  (hl:listed.set i true=l1) (hl':listed.set j true=l2)
  (h:W P ⟨kn,kD,ro⟩ ops (RKO P ⟨kn,kD,ro⟩ ops Q S k f l1 i w) [o] F w) (h':W P ⟨kn,kD,ro⟩ ops (RKO P ⟨kn,kD,ro⟩ ops Q S k f l2 j w) [o'] F w):RO P ⟨kn,kD,ro⟩ ops Q S k (f+1) listed F w:=by
 cases ro with
 |none=>exact r_one2 l1 l2 i j o o' ho ho' hr hik hjk hl hl' h h'
 |some x=>exact rI_one2 l1 l2 i j o o' ho ho' hr hik hjk hl hl' h h'
theorem rO_next{k f i:Nat}{w0:World}{listed:List Bool}(hS:S i w0 w)(h:RO P ⟨kn,kD,ro⟩ ops Q S k f listed F w):RKO P ⟨kn,kD,ro⟩ ops Q S k f listed i w0 .normal (fr ⟨kn,kD,ro⟩ F) w:=by
 cases ro with
 |none=>exact age hS h
 |some x=>exact rI_next hS h
theorem rO_zero{k:Nat}{listed:List Bool}(hseq:Region.seqB .any ops (ops.size-k) k listed.toArray=true)(h:W P ⟨kn,kD,ro⟩ ops Q (ops.toList.drop k) F w):RO P ⟨kn,kD,ro⟩ ops Q S k 0 listed F w:=by
 cases ro with
 |none=>exact agw hseq h
 |some x=>exact rI_zero hseq h
end
attribute [irreducible] RI RKI RO RKO
end Go.Wk
namespace Go.Ce
open Go.Wk
open List renaming rec -> zaO, replicate -> zag
open Nat renaming add -> zaN, beq -> zai, ble -> zam, blt -> zay, mod -> zaY, mul -> zbj, succ -> zaR
open Option renaming rec -> zaj
open UInt8 renaming ofNat -> zaQ
noncomputable def bi{α:Type}(c:Bool)(x y:α):α:=Bool.rec y x c
noncomputable def ob{α β:Type}(x:Option α)(f:α->Option β):Option β:=zaj none f x
inductive Pk where
 |h
 |o (p:Pk)
 |i (p:Pk)
noncomputable def pkF(f:Nat):Nat->Pk:=
 Nat.rec (fun _=>.h) (fun _ r k=>bi (zai k (nat_lit 0)) .h (bi (zai (zaY k (nat_lit 2)) (nat_lit 1)) (.i (r (Nat.div k (nat_lit 2)))) (.o (r (Nat.sub (Nat.div k (nat_lit 2)) (nat_lit 1)))))) f
noncomputable def pk(k:Nat):Pk:=pkF (zaR k) k
inductive Tr (α:Type) where
 |e
 |n (l:Tr α) (v:Option α) (r:Tr α)
noncomputable def Tr.L{α:Type}(t:Tr α):Tr α:=Tr.rec .e (fun l _ _ _ _=>l) t
noncomputable def Tr.V{α:Type}(t:Tr α):Option α:=Tr.rec none (fun _ v _ _ _=>v) t
noncomputable def Tr.R{α:Type}(t:Tr α):Tr α:=Tr.rec .e (fun _ _ r _ _=>r) t
noncomputable def Tr.getP{α:Type}(p:Pk):Tr α->Option α:=Pk.rec Tr.V (fun _ g t=>g t.R) (fun _ g t=>g t.L) p
noncomputable def Tr.setP{α:Type}(x:α)(p:Pk):Tr α->Tr α:=Pk.rec (fun t=>.n t.L (some x) t.R) (fun _ s t=>.n t.L t.V (s t.R)) (fun _ s t=>.n (s t.L) t.V t.R) p
noncomputable def Tr.get{α:Type}(t:Tr α)(k:Nat):Option α:=Tr.getP (pk k) t
noncomputable def Tr.set{α:Type}(t:Tr α)(k:Nat)(x:α):Tr α:=Tr.setP x (pk k) t
def dec:Nat->Nat->List UInt8
 |0,_=>[]
 |l+1,x=>zaQ (x%256)::dec l (x/256)
def enc:List UInt8->Nat
 |[]=>0
 |c::l=>c.toNat+256*enc l
inductive Cp where
 |k (c:Nat)
 |r (off:Nat)
inductive SC where
 |b (x:Bool)
 |i (k:IntKind) (n:Nat)
 |s (l x:Nat)
 |np
 |ns
 |nf
 |ni
 |nm
 |p (i off:Nat)
 |g (i off:Nat)
 |sl (i base n:Nat) (c:Cp)
 |fn (f:Nat) (cs:List Nat)
 |y (i:Nat)
 |m (i:Nat)
 |z (i base d off:Nat)
inductive SA where
 |c (x:SC)
 |a (l:List SC)
inductive SV where
 |c (x:SC)
 |a (l:List SC)
 |t (l:List SA)
 |u
inductive Mo where
 |ex
 |rw (sz m:Nat)
 |bw
 |fb
inductive HB where
 |cl (t:Nat) (md:Mo) (xs:List SC)
 |it (l x pos:Nat)
 |lp (busy:Bool) (j k:Nat) (ps:List Nat) (asg body:Code) (F:Tr SV)
 |df
 |gn
 |mp (es:List (SC×SC))
structure Hs where
 nx:Nat
 t:Tr HB
structure T where
 F:Tr SV
 H:Hs
 D:Option Nat
structure M where
 n:Nat
 m:Option (Option Nat)
inductive Ex where
 |nm
 |rt
 |xt (id:Nat)
structure Cx where
 P:Program
 G:Nat->Option (List SC)
 X:Nat->Option (List SV->Hs->Option (SV×Hs))
 pure:Nat->Bool
 V:Nat->Bool
structure Ks where
 call:Nat->List SV->Hs->Option (SV×Hs)
 run:M->Code->T->Option (Ex×T)
noncomputable def SV.asC:SV->Option SC:=SV.rec some (fun _=>none) (fun _=>none) none
noncomputable def SV.asA:SV->Option (List SC):=SV.rec (fun _=>none) some (fun _=>none) none
noncomputable def SV.asT:SV->Option (List SA):=SV.rec (fun _=>none) (fun _=>none) some none
noncomputable def SV.cells:SV->Option (List SC):=SV.rec (fun x=>some [x]) some (fun _=>none) none
noncomputable def SV.sa:SV->Option SA:=SV.rec (fun x=>some (.c x)) (fun l=>some (.a l)) (fun _=>none) none
noncomputable def SA.sv:SA->SV:=SA.rec .c .a
noncomputable def SC.asB:SC->Option Bool:=SC.rec some (fun _ _=>none) (fun _ _=>none) none none none none none (fun _ _=>none) (fun _ _=>none) (fun _ _ _ _=>none) (fun _ _=>none) (fun _=>none) (fun _=>none) (fun _ _ _ _=>none)
noncomputable def SC.asI:SC->Option (IntKind×Nat):=SC.rec (fun _=>none) (fun k n=>some (k,n)) (fun _ _=>none) none none none none none (fun _ _=>none) (fun _ _=>none) (fun _ _ _ _=>none) (fun _ _=>none) (fun _=>none) (fun _=>none) (fun _ _ _ _=>none)
noncomputable def SC.asS:SC->Option (Nat×Nat):=SC.rec (fun _=>none) (fun _ _=>none) (fun l x=>some (l,x)) none none none none none (fun _ _=>none) (fun _ _=>none) (fun _ _ _ _=>none) (fun _ _=>none) (fun _=>none) (fun _=>none) (fun _ _ _ _=>none)
noncomputable def SC.asP:SC->Option (Nat×Nat):=SC.rec (fun _=>none) (fun _ _=>none) (fun _ _=>none) none none none none none (fun i o=>some (i,o)) (fun _ _=>none) (fun _ _ _ _=>none) (fun _ _=>none) (fun _=>none) (fun _=>none) (fun _ _ _ _=>none)
noncomputable def HB.asC:HB->Option (Nat×Mo×List SC):=HB.rec (fun t md xs=>some (t,md,xs)) (fun _ _ _=>none) (fun _ _ _ _ _ _ _=>none) none none (fun _=>none)
noncomputable def kn:IntKind->Nat:=IntKind.rec (nat_lit 0) (nat_lit 1) (nat_lit 2) (nat_lit 3) (nat_lit 4) (nat_lit 5) (nat_lit 6) (nat_lit 7)
noncomputable def km:IntKind->Nat:=IntKind.rec (nat_lit 256) (nat_lit 65536) (nat_lit 4294967296) (nat_lit 18446744073709551616) (nat_lit 256) (nat_lit 65536) (nat_lit 4294967296) (nat_lit 18446744073709551616)
noncomputable def kh:IntKind->Nat:=IntKind.rec (nat_lit 128) (nat_lit 32768) (nat_lit 2147483648) (nat_lit 9223372036854775808) (nat_lit 256) (nat_lit 65536) (nat_lit 4294967296) (nat_lit 18446744073709551616)
noncomputable def ko:IntKind->Nat:=IntKind.rec (nat_lit 128) (nat_lit 32768) (nat_lit 2147483648) (nat_lit 9223372036854775808) (nat_lit 0) (nat_lit 0) (nat_lit 0) (nat_lit 0)
noncomputable def ures(k:IntKind)(m:Nat):Int:=bi (zam (kh k) m) (.negSucc (Nat.sub (Nat.sub (km k) (nat_lit 1)) m)) (.ofNat m)
noncomputable def ieq:Int->Int->Bool:=Int.rec (fun a=>Int.rec (fun b=>zai a b) (fun _=>false)) (fun a=>Int.rec (fun _=>false) (fun b=>zai a b))
noncomputable def inot(b:Bool):Bool:=Bool.rec true false b
noncomputable def resI(k:IntKind):Int->Nat:=Int.rec (fun a=>zaY a (km k)) (fun a=>Nat.sub (Nat.sub (km k) (nat_lit 1)) (zaY a (km k)))
noncomputable def SC.asN(x:SC):Option Nat:=ob x.asI fun q=>(fun r=>bi (zam (zaR r) (kh q.1)) (some r) none) (zaY q.2 (km q.1))
noncomputable def ilt(k:IntKind)(a c:Nat):Bool:=zam (zaR (zaY (zaN a (ko k)) (km k))) (zaY (zaN c (ko k)) (km k))
noncomputable def ieqN(k:IntKind)(a c:Nat):Bool:=zai (zaY a (km k)) (zaY c (km k))
noncomputable def noI(k:IntKind)(a c:Nat):Option SC:=none
noncomputable def binI(b:BinOp):IntKind->Nat->Nat->Option SC:=
 match b with
 |.add=>fun k a c=>some (.i k (zaY (zaN a c) (km k)))
 |.sub=>fun k a c=>some (.i k (zaY (zaN a (Nat.sub (km k) (zaY c (km k)))) (km k)))
 |.mul=>fun k a c=>some (.i k (zaY (zbj a c) (km k)))
 |.lss=>fun k a c=>some (.b (ilt k a c))
 |.leq=>fun k a c=>some (.b (inot (ilt k c a)))
 |.gtr=>fun k a c=>some (.b (ilt k c a))
 |.geq=>fun k a c=>some (.b (inot (ilt k a c)))
 |.eql=>fun k a c=>some (.b (ieqN k a c))
 |.neq=>fun k a c=>some (.b (inot (ieqN k a c)))
 |.and=>fun k a c=>some (.i k (Nat.land (zaY a (km k)) (zaY c (km k))))
 |.or=>fun k a c=>some (.i k (Nat.lor (zaY a (km k)) (zaY c (km k))))
 |.xor=>fun k a c=>some (.i k (Nat.xor (zaY a (km k)) (zaY c (km k))))
 |_=>noI
noncomputable def kb:IntKind->Nat:=IntKind.rec (nat_lit 8) (nat_lit 16) (nat_lit 32) (nat_lit 64) (nat_lit 8) (nat_lit 16) (nat_lit 32) (nat_lit 64)
noncomputable def binSh(b:BinOp)(k:IntKind)(a:Nat)(k':IntKind)(c:Nat):Option SC:=
 match b with
 |.shl=>(fun q=>bi (zam q (kb k)) (some (.i k (zaY (zbj a (Nat.pow (nat_lit 2) q)) (km k)))) none) (zaY c (km k'))
 |.shr=>(fun q=>(fun r=>bi (zam q (kb k)) (bi (zam (zaR r) (kh k)) (some (.i k (Nat.div r (Nat.pow (nat_lit 2) q)))) none) none) (zaY a (km k))) (zaY c (km k'))
 |_=>none
noncomputable def conI(k k':IntKind)(a:Nat):Nat:=(fun r=>bi (zam (kh k) r) (zaY (zaN r (Nat.sub (zbj (km k') (km k)) (km k))) (km k')) (zaY r (km k'))) (zaY a (km k))
noncomputable def cvc:Value->Option SC
 |.bool b=>some (.b b)
 |.int k n=>bi (ieq (ures k (resI k n)) n) (some (.i k (resI k n))) none
 |.string s=>some (.s s.data.toList.length (enc s.data.toList))
 |.pointer none=>some .np
 |.slice none 0 0=>some .ns
 |.nilFunc=>some .nf
 |.nilIface=>some .ni
 |.map none=>some .nm
 |_=>none
noncomputable def cvs:List Value->Option (List SC)
 |[]=>some []
 |v::l=>ob (cvc v) fun x=>ob (cvs l) fun xs=>some (x::xs)
noncomputable def cv:Value->Option SV
 |.agg cs=>ob (cvs cs.toList) fun xs=>some (.a xs)
 |v=>ob (cvc v) fun x=>some (.c x)
noncomputable def SC.v:SC->Option Value
 |.b x=>some (.bool x)
 |.i k n=>some (.int k (ures k (zaY n (km k))))
 |.s l x=>some (str (dec l x))
 |.np=>some (.pointer none)
 |.ns=>some (.slice none 0 0)
 |.nf=>some .nilFunc
 |.ni=>some .nilIface
 |_=>none
noncomputable def vcs:List SC->Option (List Value)
 |[]=>some []
 |x::l=>ob x.v fun v=>ob (vcs l) fun vs=>some (v::vs)
noncomputable def SV.v:SV->Option Value
 |.c x=>x.v
 |.a l=>ob (vcs l) fun vs=>some (.agg vs.toArray)
 |_=>none
noncomputable def seq(l x m y:Nat):Bool:=bi (zai l m) (zai (zaY x (Nat.pow (nat_lit 256) l)) (zaY y (Nat.pow (nat_lit 256) l))) false
noncomputable def sbyte(x i:Nat):Nat:=zaY (Nat.div x (Nat.pow (nat_lit 256) i)) (nat_lit 256)
noncomputable def scut(x i j:Nat):SC:=.s (Nat.sub j i) (zaY (Nat.div x (Nat.pow (nat_lit 256) i)) (Nat.pow (nat_lit 256) (Nat.sub j i)))
noncomputable def scat(l x m y:Nat):SC:=.s (zaN l m) (zaN (zaY x (Nat.pow (nat_lit 256) l)) (zbj (Nat.pow (nat_lit 256) l) y))
noncomputable def binS(b:BinOp)(l x m y:Nat):Option SC:=
 match b with
 |.eql=>some (.b (seq l x m y))
 |.neq=>some (.b (inot (seq l x m y)))
 |.add=>bi (zam (zaN l m) (nat_lit 1000000000000)) (some (scat l x m y)) none
 |.lss=>some (.b (Op.bytesLess (dec l x) (dec m y)))
 |.gtr=>some (.b (inot (or (Op.bytesLess (dec l x) (dec m y)) (seq l x m y))))
 |_=>none
noncomputable def bin(b:BinOp)(x y:SC):Option SC:=
 zaj
  (ob x.asS fun p=>ob y.asS fun q=>binS b p.1 p.2 q.1 q.2)
  (fun p=>ob y.asI fun q=>zaj (bi (zai (kn p.1) (kn q.1)) (binI b p.1 p.2 q.2) none) some (binSh b p.1 p.2 q.1 q.2)) x.asI
noncomputable def lget{α:Type}(l:List α):Nat->Option α:=zaO (fun _=>none) (fun x _ r k=>bi (zai k (nat_lit 0)) (some x) (r (Nat.sub k (nat_lit 1)))) l
noncomputable def ldrop{α:Type}(l:List α):Nat->List α:=zaO (fun _=>[]) (fun x xs r k=>bi (zai k (nat_lit 0)) (x::xs) (r (Nat.sub k (nat_lit 1)))) l
noncomputable def ltake{α:Type}(l:List α):Nat->List α:=zaO (fun _=>[]) (fun x _ r k=>bi (zai k (nat_lit 0)) [] (x::r (Nat.sub k (nat_lit 1)))) l
noncomputable def aid{α:Type}(l:List α):Nat:=zaO (nat_lit 0) (fun _ _ r=>zaR r) l
noncomputable def lapp{α:Type}(l r:List α):List α:=zaO r (fun x _ q=>x::q) l
noncomputable def lput{α:Type}(xs:List α):Nat->List α->List α:=zaO (fun _ _=>[])
 (fun x _ r k vs=>bi (zai k (nat_lit 0)) (zaO (x::r (nat_lit 0) []) (fun v vt _=>v::r (nat_lit 0) vt) vs) (x::r (Nat.sub k (nat_lit 1)) vs)) xs
noncomputable def lrep(z:List SC)(n:Nat):List SC:=Nat.rec [] (fun _ r=>lapp z r) n
noncomputable def oget(x:Option SV):SV:=zaj .u (fun v=>v) x
noncomputable def evO(m:M)(S:T)(x:Operand):Option SV:=Operand.rec (motive:=fun _=>M->T->Option SV)
 (fun t m S=>bi (zam (zaR t) m.n) (some (oget (S.F.get t))) (some .u)) (fun v _ _=>cv v) (fun g _ _=>some (.c (.g g (nat_lit 0)))) (fun f _ _=>some (.c (.fn f []))) x m S
noncomputable def evC(m:M)(S:T)(x:Operand):Option SC:=ob (evO m S x) SV.asC
noncomputable def evN(m:M)(S:T)(x:Operand):Option Nat:=ob (evC m S x) SC.asN
noncomputable def evND(m:M)(S:T)(x:Option Operand)(d:Nat):Option Nat:=zaj (some d) (fun x=>evN m S x) x
noncomputable def evV(m:M)(S:T)(x:Operand):Option Value:=ob (evO m S x) SV.v
def isSel:Op->Bool
 |.select _ _=>true
 |_=>false
def nextV:Next->Option Value
 |.value v=>some v
 |_=>none
noncomputable def gen(C:Cx)(m:M)(S:T)(o:Oper):Option SV:=
 bi (isSel o.op) none (bi (o.op.operands.toList.all fun x=>(evV m S x).isSome)
  (ob (sval C.P (execOp (fun x=>(evV m S x).getD undef) o)) fun n=>ob (nextV n) cv) none)
def uSl(d:TypeDesc):Option Nat:=match d with|.slice e=>some e|_=>none
def uAr(d:TypeDesc):Option (Nat×Nat):=match d with|.array n e=>some (n,e)|_=>none
def uSt(d:TypeDesc):Option (List Field):=match d with|.struct fs=>some fs.toList|_=>none
def uIn(d:TypeDesc):Option IntKind:=match d with|.int k=>some k|_=>none
def uStr(d:TypeDesc):Option Unit:=match d with|.string=>some ()|_=>none
section
variable (C : Cx)
noncomputable def tSl(t:Nat):Option Nat:=ob (C.P.underlying t) uSl
noncomputable def tAr(t:Nat):Option (Nat×Nat):=ob (C.P.underlying t) uAr
noncomputable def tSt(t:Nat):Option (List Field):=ob (C.P.underlying t) uSt
noncomputable def tIn(t:Nat):Option IntKind:=ob (C.P.underlying t) uIn
noncomputable def tStr(t:Nat):Option Unit:=ob (C.P.underlying t) uStr
noncomputable def tSz(t:Nat):Option Nat:=sval C.P (sizeOf t)
noncomputable def tAg(t:Nat):Option Bool:=sval C.P (isAgg t)
noncomputable def isU8(e:Nat):Option Unit:=ob (tIn C e) fun k=>bi (zai (kn k) (kn .u8)) (some ()) none
noncomputable def zeroC(t:Nat):Option (List SC):=ob (sval C.P (zeroValue t)) fun v=>cvs v.cells.toList
noncomputable def fieldOf(t f:Nat):Option Field:=ob (tSt C t) fun fs=>lget fs f
noncomputable def fieldAt(t f:Nat):Option Nat:=ob (fieldOf C t f) fun fd=>ob (tSz C fd.type) fun z=>bi (zai z (nat_lit 0)) none (some fd.offset)
end
section
variable (C : Cx) (m : M) (S : T)
noncomputable def cellsOf(i:Nat):Option (List SC):=ob (S.H.t.get i) fun b=>ob b.asC fun q=>some q.2.2
noncomputable def partOf(t:Nat)(xs:List SC)(off:Nat):Option SV:=
 ob (tAg C t) fun a=>bi a (ob (tSz C t) fun n=>bi (zam (zaN off n) (aid xs)) (some (.a (ltake (ldrop xs off) n))) none) (ob (lget xs off) fun x=>some (.c x))
noncomputable def loadC(t:Nat)(x:SC):Option SV:=SC.rec (motive:=fun _=>Option SV) (fun _=>none) (fun _ _=>none) (fun _ _=>none) none none none none none
 (fun i off=>ob (cellsOf S i) fun xs=>partOf C t xs off) (fun g off=>ob (C.G g) fun xs=>partOf C t xs off) (fun _ _ _ _=>none) (fun _ _=>none) (fun _=>none) (fun _=>none) (fun _ _ _ _=>none) x
noncomputable def opLoad(t:Nat)(x:Operand):Option SV:=ob (evC m S x) (loadC C S t)
noncomputable def opField(t:Nat)(x:Operand)(f:Nat):Option SV:=ob (fieldOf C t f) fun fd=>ob (evO m S x) fun v=>ob v.asA fun xs=>partOf C fd.type xs fd.offset
noncomputable def padd(d:Nat)(x:SC):Option SV:=SC.rec (motive:=fun _=>Option SV) (fun _=>none) (fun _ _=>none) (fun _ _=>none) none none none none none
 (fun i off=>some (.c (.p i (zaN off d)))) (fun g off=>some (.c (.g g (zaN off d)))) (fun _ _ _ _=>none) (fun _ _=>none) (fun _=>none) (fun _=>none) (fun _ _ _ _=>none) x
noncomputable def opFieldAddr(t:Nat)(x:Operand)(f:Nat):Option SV:=ob (fieldAt C t f) fun d=>ob (evC m S x) (padd d)
noncomputable def slAdd(j sz:Nat)(x:SC):Option SV:=SC.rec (motive:=fun _=>Option SV) (fun _=>none) (fun _ _=>none) (fun _ _=>none) none none none none none
 (fun _ _=>none) (fun _ _=>none) (fun i base n _=>bi (zam (zaR j) n) (some (.c (.p i (zaN base (zbj j sz))))) none) (fun _ _=>none) (fun _=>none) (fun _=>none) (fun _ _ _ _=>none) x
noncomputable def opIndexAddr(t:Nat)(x ix:Operand):Option SV:=
 ob (evN m S ix) fun j=>ob (evC m S x) fun v=>zaj
  (ob (tAr C t) fun q=>ob (tSz C q.2) fun sz=>bi (zam (zaR j) q.1) (padd (zbj j sz) v) none)
  (fun e=>ob (tSz C e) fun sz=>slAdd j sz v) (tSl C t)
noncomputable def opIndex(t:Nat)(x ix:Operand):Option SV:=
 ob (evN m S ix) fun j=>ob (evO m S x) fun v=>zaj
  (ob v.asA fun xs=>ob (tAr C t) fun q=>ob (tSz C q.2) fun sz=>bi (zam (zaR j) q.1) (partOf C q.2 xs (zbj j sz)) none)
  (fun x=>ob x.asS fun q=>ob (tStr C t) fun _=>bi (zam (zaR j) q.1) (some (.c (.i .u8 (sbyte q.2 j)))) none) v.asC
noncomputable def cutS(t:Nat)(lo hi mx:Option Operand)(l x:Nat):Option SV:=
 ob (tStr C t) fun _=>bi mx.isNone (ob (evND m S lo (nat_lit 0)) fun i=>ob (evND m S hi l) fun j=>bi (zam i j) (bi (zam j l) (some (.c (scut x i j))) none) none) none
noncomputable def cutK(i base cc sz a b mm:Nat):Option SV:=
 bi (zam a b) (bi (zam b mm) (bi (zam mm cc) (some (.c (.sl i (bi (zai mm a) base (zaN base (zbj a sz))) (Nat.sub b a) (.k (Nat.sub mm a))))) none) none) none
noncomputable def room(i k:Nat):Bool:=zaj false (fun b=>zaj false (fun q=>Mo.rec (motive:=fun _=>Bool) false (fun _ mm=>zam k mm) (zam k (aid q.2.2)) false q.2.1) b.asC) (S.H.t.get i)
noncomputable def cutR(rm:Nat->Nat->Bool)(i base n sz off a b:Nat):Option SV:=
 bi (rm i (zaN off n)) (bi (zam a b) (bi (zam b n) (bi (zai a (nat_lit 0)) (some (.c (.sl i base b (.r off)))) (bi (zam (zaR a) n) (some (.c (.sl i (zaN base (zbj a sz)) (Nat.sub b a) (.r (zaN off a))))) (some (.c (.z i base (zbj a sz) (zaN off a)))))) none) none) none
noncomputable def cutL(rm:Nat->Nat->Bool)(t:Nat)(lo hi mx:Option Operand)(i base n:Nat)(c:Cp):Option SV:=
 ob (tSl C t) fun e=>ob (tSz C e) fun sz=>ob (evND m S lo (nat_lit 0)) fun a=>ob (evND m S hi n) fun b=>zaj
  (Cp.rec (motive:=fun _=>Option SV) (fun cc=>cutK i base cc sz a b cc) (fun off=>cutR rm i base n sz off a b) c)
  (fun mo=>bi hi.isSome (ob (evN m S mo) fun mm=>ob (Cp.rec some (fun off=>bi (rm i (zaN off n)) (some n) none) c) fun cc=>cutK i base cc sz a b mm) none) mx
noncomputable def cutA(t:Nat)(lo hi mx:Option Operand)(i off:Nat):Option SV:=
 ob (tAr C t) fun q=>ob (tSz C q.2) fun sz=>bi mx.isNone (ob (evND m S lo (nat_lit 0)) fun a=>ob (evND m S hi q.1) fun b=>cutK i off q.1 sz a b q.1) none
noncomputable def cutN(t:Nat)(lo hi mx:Option Operand):Option SV:=
 ob (tSl C t) fun e=>ob (tSz C e) fun _=>bi mx.isNone (ob (evND m S lo (nat_lit 0)) fun a=>ob (evND m S hi (nat_lit 0)) fun b=>bi (zai (zaN a b) (nat_lit 0)) (some (.c .ns)) none) none
noncomputable def cutZ(t:Nat)(lo hi mx:Option Operand)(i base dd off:Nat):Option SV:=
 ob (tSl C t) fun e=>ob (tSz C e) fun _=>bi mx.isNone (ob (evND m S lo (nat_lit 0)) fun a=>ob (evND m S hi (nat_lit 0)) fun b=>bi (zai (zaN a b) (nat_lit 0)) (some (.c (.z i base dd off))) none) none
noncomputable def opSliceR(rm:Nat->Nat->Bool)(t:Nat)(x:Operand)(lo hi mx:Option Operand):Option SV:=
 ob (evC m S x) fun v=>SC.rec (motive:=fun _=>Option SV) (fun _=>none) (fun _ _=>none) (cutS C m S t lo hi mx) none (cutN C m S t lo hi mx) none none none
  (cutA C m S t lo hi mx) (fun _ _=>none) (cutL C m S rm t lo hi mx) (fun _ _=>none) (fun _=>none) (fun _=>none) (cutZ C m S t lo hi mx) v
noncomputable def opSlice(t:Nat)(x:Operand)(lo hi mx:Option Operand):Option SV:=opSliceR C m S (room S) t x lo hi mx
noncomputable def opExtract(x:Operand)(i:Nat):Option SV:=ob (evO m S x) fun v=>ob v.asT fun l=>ob (lget l i) fun y=>some y.sv
noncomputable def opPick(c a b:Operand):Option SV:=ob (evC m S c) fun v=>ob v.asB fun t=>bi t (evO m S a) (evO m S b)
noncomputable def opNil(x:Operand):Option SV:=ob (evC m S x) fun v=>SC.rec (motive:=fun _=>Option SV) (fun _=>none) (fun _ _=>none) (fun _ _=>none) none none none none none
 (fun i off=>some (.c (.p i off))) (fun g off=>some (.c (.g g off))) (fun _ _ _ _=>none) (fun f l=>some (.c (.fn f l))) (fun _=>none) (fun _=>none) (fun _ _ _ _=>none) v
def isEq:BinOp->Option Bool
 |.eql=>some false
 |.neq=>some true
 |_=>none
noncomputable def SC.isSl:SC->Bool:=SC.rec (fun _=>false) (fun _ _=>false) (fun _ _=>false) false false false false false (fun _ _=>false) (fun _ _=>false) (fun _ _ _ _=>true) (fun _ _=>false) (fun _=>false) (fun _=>false) (fun _ _ _ _=>true)
noncomputable def SC.isNs:SC->Bool:=SC.rec (fun _=>false) (fun _ _=>false) (fun _ _=>false) false true false false false (fun _ _=>false) (fun _ _=>false) (fun _ _ _ _=>false) (fun _ _=>false) (fun _=>false) (fun _=>false) (fun _ _ _ _=>false)
noncomputable def binX(b:BinOp)(t:Nat)(x y:SC):Option SV:=
 bi x.isSl (bi y.isNs (ob (tSl C t) fun _=>ob (isEq b) fun r=>some (.c (.b r))) none) (ob (bin b x y) fun r=>some (.c r))
noncomputable def opBin(o:Oper)(b:BinOp)(t:Nat)(x y:Operand):Option SV:=
 zaj (gen C m S o) some (ob (evC m S x) fun vx=>ob (evC m S y) fun vy=>binX C b t vx vy)
noncomputable def opNot(o:Oper)(u:UnOp)(x:Operand):Option SV:=
 match u with
 |.not=>ob (evC m S x) fun v=>ob v.asB fun b=>some (.c (.b (inot b)))
 |_=>gen C m S o
noncomputable def fillC(sz:Nat->Option (Nat×Nat))(parts:List (Nat×SV)):List SC->Option (List SC):=
 zaO (fun cs=>some cs) (fun p _ r cs=>ob (sz p.1) fun q=>ob p.2.cells fun vs=>bi (zai (aid vs) q.2) (bi (zam (zaN q.1 (aid vs)) (aid cs)) (r (lput cs q.1 vs)) none) none) parts
noncomputable def evParts(ps:List (Nat×Operand)):Option (List (Nat×SV)):=
 zaO (some []) (fun p _ r=>ob (evO m S p.2) fun v=>ob r fun l=>some ((p.1,v)::l)) ps
noncomputable def placesL(fs:List Field):Option (List (Nat×Nat)):=zaO (some []) (fun f _ r=>ob (tSz C f.type) fun n=>ob r fun l=>some ((f.offset,n)::l)) fs
noncomputable def places(t:Nat):Option (Nat->Option (Nat×Nat)):=
 zaj (ob (tAr C t) fun q=>ob (tSz C q.2) fun n=>some fun i=>some (zbj i n,n))
  (fun fs=>ob (placesL C fs) fun l=>some fun i=>lget l i) (tSt C t)
noncomputable def opBuild(t:Nat)(ps:Array (Nat×Operand)):Option SV:=
 ob (evParts m S ps.toList) fun l=>ob (zeroC C t) fun z=>ob (places C t) fun pl=>ob (fillC pl l z) fun cs=>some (.a cs)
noncomputable def capIds(l:List Operand):Option (List Nat):=
 zaO (some []) (fun x _ r=>ob (evC m S x) fun v=>ob v.asP fun p=>bi (zai p.2 (nat_lit 0)) (ob r fun q=>some (p.1::q)) none) l
noncomputable def fnOf(f:Fn):Option Nat:=Fn.rec some (fun _=>none) (fun _ _=>none) (fun _ _ _ _=>none) (fun _=>none) f
noncomputable def opFunc(f:Fn)(first cap:Array Operand):Option SV:=
 ob (fnOf f) fun k=>bi first.toList.isEmpty (ob (capIds m S cap.toList) fun l=>some (.c (.fn k l))) none
noncomputable def slLen:SC->Option Nat:=SC.rec (fun _=>none) (fun _ _=>none) (fun _ _=>none) none none none none none (fun _ _=>none) (fun _ _=>none) (fun _ _ n _=>some n) (fun _ _=>none) (fun _=>none) (fun _=>none) (fun _ _ _ _=>some (nat_lit 0))
noncomputable def slCap:SC->Option Nat:=SC.rec (fun _=>none) (fun _ _=>none) (fun _ _=>none) none none none none none (fun _ _=>none) (fun _ _=>none) (fun _ _ _ c=>Cp.rec some (fun _=>none) c) (fun _ _=>none) (fun _=>none) (fun _=>none) (fun _ _ _ _=>none)
noncomputable def only{α:Type}(l:List α):Option α:=zaO none (fun x xs _=>bi xs.isEmpty (some x) none) l
noncomputable def iOf(k:IntKind)(n:Nat):Option SV:=bi (zam (zaR n) (kh k)) (some (.c (.i k n))) none
noncomputable def opLen(o:Oper)(c:Call):Option SV:=
 zaj (gen C m S o) some (ob (only c.args.toList) fun x=>ob (only c.argTypes.toList) fun t=>ob (evC m S x) fun v=>zaj
  (ob (slLen v) fun n=>ob (tSl C t) fun _=>iOf .i64 n)
  (fun q=>ob (tStr C t) fun _=>iOf .i64 q.1) v.asS)
noncomputable def opCap(o:Oper)(c:Call):Option SV:=
 zaj (gen C m S o) some (ob (only c.args.toList) fun x=>ob (only c.argTypes.toList) fun t=>ob (evC m S x) fun v=>ob (slCap v) fun n=>ob (tSl C t) fun _=>iOf .i64 n)
noncomputable def SC.asU8(x:SC):Option Nat:=ob x.asI fun q=>bi (zai (kn q.1) (kn .u8)) (some (zaY q.2 (nat_lit 256))) none
noncomputable def encC(l:List SC):Option Nat:=
 zaO (some (nat_lit 0)) (fun x _ r=>ob x.asU8 fun c=>ob r fun q=>some (zaN c (zbj (nat_lit 256) q))) l
noncomputable def convL(s t i base n:Nat):Option SV:=
 ob (tSl C s) fun e=>ob (tStr C t) fun _=>ob (isU8 C e) fun _=>ob (cellsOf S i) fun xs=>bi (zam (zaN base n) (aid xs)) (ob (encC (ltake (ldrop xs base) n)) fun q=>some (.c (.s n q))) none
noncomputable def convC(s t:Nat)(v:SC):Option SV:=SC.rec (motive:=fun _=>Option SV) (fun _=>none)
 (fun k n=>ob (tIn C s) fun k0=>ob (tIn C t) fun k'=>bi (zai (kn k) (kn k0)) (some (.c (.i k' (conI k k' n)))) none)
 (fun l x=>ob (tStr C s) fun _=>ob (tStr C t) fun _=>some (.c (.s l x))) none none none none none (fun _ _=>none) (fun _ _=>none) (fun i base n _=>convL C S s t i base n) (fun _ _=>none) (fun _=>none) (fun _=>none) (fun _ _ _ _=>ob (tSl C s) fun e=>ob (tStr C t) fun _=>ob (isU8 C e) fun _=>some (.c (.s (nat_lit 0) (nat_lit 0)))) v
noncomputable def opConv(o:Oper)(s t:Nat)(x:Operand):Option SV:=zaj (gen C m S o) some (ob (evC m S x) (convC C S s t))
noncomputable def opCallV(o:Oper)(c:Call):Option SV:=
 match c.callee with
 |.builtin .len=>opLen C m S o c
 |.builtin .cap=>opCap C m S o c
 |_=>gen C m S o
end
abbrev VF:=Cx->M->T->Oper->Option SV
noncomputable def vGen:VF:=gen
noncomputable def opV(op:Op):VF:=Op.rec (motive:=fun _=>VF)
 (fun x _ m S _=>evO m S x)
 (fun x _ m S _=>evO m S x)
 (fun c a b _ m S _=>opPick m S c a b)
 (fun _=>vGen)
 (fun _ _=>vGen)
 (fun t ps C m S _=>opBuild C m S t ps)
 (fun _ _ _=>vGen)
 (fun _ _ _ _=>vGen)
 (fun t x C m S _=>opLoad C m S t x)
 (fun _ _ _=>vGen)
 (fun _=>vGen)
 (fun _=>vGen)
 (fun x _ m S _=>opNil m S x)
 (fun b t x y _ C m S o=>opBin C m S o b t x y)
 (fun u _ x C m S o=>opNot C m S o u x)
 (fun s t x C m S o=>opConv C m S o s t x)
 (fun _ _=>vGen)
 (fun _ _=>vGen)
 (fun f a b _ m S _=>opFunc m S f a b)
 (fun _ _=>vGen)
 (fun _ _=>vGen)
 (fun _ _ _=>vGen)
 (fun t x lo hi mx C m S _=>opSlice C m S t x lo hi mx)
 (fun t x f C m S _=>opFieldAddr C m S t x f)
 (fun t x f C m S _=>opField C m S t x f)
 (fun t x ix C m S _=>opIndexAddr C m S t x ix)
 (fun t x ix C m S _=>opIndex C m S t x ix)
 (fun _ _ _ _=>vGen)
 (fun _ _ _ _=>vGen)
 (fun _ _ _=>vGen)
 (fun _ _ _ _=>vGen)
 (fun _ _=>vGen)
 (fun _ _=>vGen)
 (fun _=>vGen)
 (fun _ _ _ _=>vGen)
 (fun x i _ m S _=>opExtract m S x i)
 (fun c C m S o=>opCallV C m S o c)
 (fun _=>vGen)
 (fun _=>vGen)
 (fun _=>vGen)
 (fun _ _=>vGen)
 (fun _ _ _=>vGen)
 (fun _ _=>vGen)
 op
noncomputable def Hs.add(H:Hs)(b:HB):Hs:=⟨zaR H.nx,H.t.set H.nx b⟩
noncomputable def Hs.upd(H:Hs)(i:Nat)(b:HB):Hs:=⟨H.nx,H.t.set i b⟩
abbrev WR':=Option (Option SV×Hs)
section
variable (C : Cx) (m : M) (S : T)
noncomputable def wVal(v:Option SV):WR':=ob v fun v=>some (some v,S.H)
noncomputable def wAlloc(t:Nat):WR':=ob (zeroC C t) fun z=>some (some (.c (.p S.H.nx (nat_lit 0))),S.H.add (.cl t .ex z))
noncomputable def wBox(t:Nat)(x:Operand):WR':=ob (evO m S x) fun v=>ob v.cells fun z=>some (some (.c (.p S.H.nx (nat_lit 0))),S.H.add (.cl t .ex z))
noncomputable def wBuildSlice(t len:Nat)(ps:Array (Nat×Operand)):WR':=
 ob (tSl C t) fun e=>ob (tSz C e) fun sz=>bi (zam (zbj len sz) (nat_lit 100000)) (ob (zeroC C e) fun z=>bi (zai (aid z) sz) (ob (evParts m S ps.toList) fun l=>
  ob (fillC (fun i=>some (zbj i sz,sz)) l (lrep z len)) fun cs=>some (some (.c (.sl S.H.nx (nat_lit 0) len (.k len))),S.H.add (.cl e .ex cs))) none) none
noncomputable def wMake(t:Nat)(x y:Operand):WR':=
 ob (tSl C t) fun e=>ob (evN m S x) fun l=>ob (evN m S y) fun c=>ob (C.P.info? e) fun i=>bi (zam l c) (bi (zam (zbj c i.bytes) (nat_lit 1000000)) (bi (zam c (nat_lit 1000000))
  (ob (zeroC C e) fun z=>bi (zai (aid z) i.size) (some (some (.c (.sl S.H.nx (nat_lit 0) l (.k c))),S.H.add (.cl e .ex (lrep z c)))) none) none) none) none
noncomputable def wStore(t:Nat)(x y:Operand):WR':=
 ob (evC m S x) fun v=>ob v.asP fun p=>ob (S.H.t.get p.1) fun b=>ob b.asC fun q=>ob (evO m S y) fun v=>ob v.cells fun vs=>ob (tSz C t) fun n=>
  bi (zai (aid vs) n) (bi (zam (zaN p.2 n) (aid q.2.2)) (some (none,S.H.upd p.1 (.cl q.1 q.2.1 (lput q.2.2 p.2 vs)))) none) none
noncomputable def byC(l x:Nat):List SC:=(Nat.rec (fun _=>[]) (fun _ r x=>(.i .u8 (zaY x (nat_lit 256)))::r (Nat.div x (nat_lit 256))) l:Nat->List SC) x
noncomputable def wBytes(s t:Nat)(x:Operand):WR':=
 ob (evC m S x) fun v=>ob v.asS fun q=>ob (tStr C s) fun _=>ob (tSl C t) fun e=>ob (isU8 C e) fun _=>some (some (.c (.sl S.H.nx (nat_lit 0) q.1 (.r (nat_lit 0)))),S.H.add (.cl e .bw (byC q.1 q.2)))
noncomputable def SC.asL:SC->Option Nat:=SC.rec (fun _=>none) (fun _ _=>none) (fun _ _=>none) none none none none none (fun _ _=>none) (fun _ _=>none) (fun i _ _ _=>some i) (fun _ _=>none) (fun _=>none) (fun _=>none) (fun _ _ _ _=>none)
noncomputable def wSame(s t:Nat)(x:Operand):WR':=
 bi (zai s t) (ob (evC m S x) fun v=>ob v.asL fun i=>ob (tSl C s) fun e=>ob (isU8 C e) fun _=>ob (S.H.t.get i) fun b=>ob b.asC fun q=>Mo.rec (motive:=fun _=>WR') (some (some (.c v),S.H.upd i (.cl q.1 .fb q.2.2))) (fun _ _=>none) (some (some (.c v),S.H.upd i (.cl q.1 .bw q.2.2))) (some (some (.c v),S.H.upd i (.cl q.1 .fb q.2.2))) q.2.1) none
noncomputable def wConv(o:Oper)(s t:Nat)(x:Operand):WR':=zaj (zaj (wVal S (opConv C m S o s t x)) some (wSame C m S s t x)) some (wBytes C m S s t x)
noncomputable def srcC(sz:Nat)(x:Operand):Option (Nat×List SC):=
 ob (evC m S x) fun v=>SC.rec (motive:=fun _=>Option (Nat×List SC)) (fun _=>none) (fun _ _=>none) (fun l x=>some (l,byC l x)) none (some (nat_lit 0,[])) none none none (fun _ _=>none) (fun _ _=>none)
  (fun i base n _=>ob (cellsOf S i) fun xs=>bi (zam (zaN base (zbj n sz)) (aid xs)) (some (n,ltake (ldrop xs base) (zbj n sz))) none) (fun _ _=>none) (fun _=>none) (fun _=>none) (fun _ _ _ _=>some (nat_lit 0,[])) v
noncomputable def isStrV(y:Operand):Bool:=zaj false (fun v=>zaj false (fun _=>true) v.asS) (evC m S y)
noncomputable def appNew(H:Hs)(e sz m:Nat)(xs:List SC):WR':=some (some (.c (.sl H.nx (nat_lit 0) m (.r (nat_lit 0)))),H.add (.cl e (.rw sz m) xs))
noncomputable def appNil(H:Hs)(e sz by_ k:Nat)(vs:List SC):WR':=bi (zai k (nat_lit 0)) (some (some (.c .ns),H)) (bi (zam (zbj k by_) (nat_lit 1000000000)) (appNew H e sz k vs) none)
noncomputable def appEx(H:Hs)(e sz i n cc k:Nat)(xs vs:List SC):WR':=
 bi (zam (zaN n k) cc) (bi (zam (zbj (zaN n k) sz) (aid xs)) (some (some (.c (.sl i (nat_lit 0) (zaN n k) (.k cc))),H.upd i (.cl e .ex (lput xs (zbj n sz) vs)))) none)
  (appNew H e sz (zaN n k) (lapp (ltake xs (zbj n sz)) vs))
noncomputable def appFb(H:Hs)(e sz n cc k:Nat)(xs vs:List SC):WR':=bi (zam (zaN n k) cc) none (appNew H e sz (zaN n k) (lapp (ltake xs (zbj n sz)) vs))
noncomputable def appRw(H:Hs)(e sz i n k sz' mm:Nat)(xs vs:List SC):WR':=
 bi (zai sz' sz) (bi (zam n mm) (appNew (H.upd i .gn) e sz (zaN n k) (lapp (ltake xs (zbj n sz)) vs)) none) none
noncomputable def appSl(H:Hs)(e sz by_ i base n k:Nat)(c:Cp)(vs:List SC):WR':=
 bi (zai base (nat_lit 0)) (ob (H.t.get i) fun b=>ob b.asC fun q=>bi (zai q.1 e) (bi (zam (zbj n sz) (aid q.2.2)) (bi (zam (zbj (zaN n k) by_) (nat_lit 1000000000))
  (Cp.rec (motive:=fun _=>WR')
   (fun cc=>Mo.rec (motive:=fun _=>WR') (appEx H e sz i n cc k q.2.2 vs) (fun _ _=>none) none (appFb H e sz n cc k q.2.2 vs) q.2.1)
   (fun off=>bi (zai off (nat_lit 0)) (Mo.rec (motive:=fun _=>WR') none (fun sz' mm=>appRw H e sz i n k sz' mm q.2.2 vs) none none q.2.1) none) c) none) none) none) none
noncomputable def appTo(e sz by_:Nat)(x:Operand)(nw:Nat×List SC):WR':=
 ob (evC m S x) fun v=>SC.rec (motive:=fun _=>WR') (fun _=>none) (fun _ _=>none) (fun _ _=>none) none (appNil S.H e sz by_ nw.1 nw.2) none none none (fun _ _=>none) (fun _ _=>none)
   (fun i base n c=>appSl S.H e sz by_ i base n nw.1 c nw.2) (fun _ _=>none) (fun _=>none) (fun _=>none) (fun _ _ _ _=>none) v
noncomputable def wAppend(t:Nat)(x y:Operand):WR':=
 ob (tSl C t) fun e=>ob (C.P.info? e) fun inf=>bi (zai inf.bytes (nat_lit 0)) none (ob (zeroC C e) fun z=>bi (zai (aid z) inf.size) (ob (srcC m S inf.size y) fun nw=>bi (isStrV m S y) (bi (zai inf.size (nat_lit 1)) (appTo m S e inf.size inf.bytes x nw) none) (appTo m S e inf.size inf.bytes x nw)) none)
noncomputable def evI(y:Operand):Option Nat:=ob (evC m S y) fun u=>ob u.asI fun q=>bi (zai (kn q.1) (kn .i64)) u.asN none
noncomputable def wAppZ(t:Nat)(d:TypeDesc)(x y:Operand):WR':=
 ob (uIn d) fun _=>ob (tSl C t) fun e=>ob (C.P.info? e) fun inf=>bi (zai inf.bytes (nat_lit 0)) none (ob (zeroC C e) fun z=>bi (zai (aid z) inf.size) (ob (evI m S y) fun k=>bi (zai (zbj k inf.size) (nat_lit 0)) none (appTo m S e inf.size inf.bytes x (k,lrep z k))) none)
noncomputable def copyTo(i base sz k:Nat)(vs:List SC):WR':=
 ob (S.H.t.get i) fun b=>ob b.asC fun q=>bi (zam (zaN base (zbj k sz)) (aid q.2.2)) (ob (iOf .i64 k) fun v=>some (some v,S.H.upd i (.cl q.1 q.2.1 (lput q.2.2 base (ltake vs (zbj k sz)))))) none
noncomputable def copyV(sz:Nat)(x:Operand)(nw:Nat×List SC):WR':=
 ob (evC m S x) fun v=>SC.rec (motive:=fun _=>WR') (fun _=>none) (fun _ _=>none) (fun _ _=>none) none
  (some (some (.c (.i .i64 (nat_lit 0))),S.H)) none none none (fun _ _=>none) (fun _ _=>none) (fun i base n _=>copyTo S i base sz (bi (zam nw.1 n) nw.1 n) nw.2) (fun _ _=>none) (fun _=>none) (fun _=>none) (fun _ _ _ _=>some (some (.c (.i .i64 (nat_lit 0))),S.H)) v
noncomputable def wCopy(t:Nat)(x y:Operand):WR':=
 ob (tSl C t) fun e=>ob (tSz C e) fun sz=>ob (srcC m S sz y) fun nw=>bi (isStrV m S y) (bi (zai sz (nat_lit 1)) (copyV m S sz x nw) none) (copyV m S sz x nw)
noncomputable def clrSl(z:List SC)(sz i base n:Nat):WR':=
 bi (zai n (nat_lit 0)) (some (some (.t []),S.H)) (ob (S.H.t.get i) fun b=>ob b.asC fun q=>bi (zam (zaN base (zbj n sz)) (aid q.2.2)) (some (some (.t []),S.H.upd i (.cl q.1 q.2.1 (lput q.2.2 base (lrep z n))))) none)
noncomputable def wClear(t:Nat)(x:Operand):WR':=
 ob (tSl C t) fun e=>ob (zeroC C e) fun z=>ob (evC m S x) fun v=>SC.rec (motive:=fun _=>WR') (fun _=>none) (fun _ _=>none) (fun _ _=>none) none (some (some (.t []),S.H)) none none none (fun _ _=>none) (fun _ _=>none)
  (fun i base n _=>clrSl S z (aid z) i base n) (fun _ _=>none) (fun _=>none) (fun _=>none) (fun _ _ _ _=>some (some (.t []),S.H)) v
noncomputable def wRange(t:Nat)(x:Operand):WR':=
 ob (evC m S x) fun v=>ob v.asS fun q=>ob (tStr C t) fun _=>some (some (.c (.p S.H.nx (nat_lit 0))),S.H.add (.it q.1 q.2 (nat_lit 0)))
noncomputable def HB.asI:HB->Option (Nat×Nat×Nat):=HB.rec (fun _ _ _=>none) (fun l x p=>some (l,x,p)) (fun _ _ _ _ _ _ _=>none) none none (fun _=>none)
noncomputable def wNext(x:Operand)(isS:Bool):WR':=
 bi isS (ob (evC m S x) fun v=>ob v.asP fun p=>bi (zai p.2 (nat_lit 0)) (ob (S.H.t.get p.1) fun b=>ob b.asI fun q=>bi (zam (zaR q.2.2) q.1)
  ((fun d:Nat×Nat=>ob (iOf .i64 q.2.2) fun _=>ob (iOf .i32 d.1) fun _=>some (some (.t [.c (.b true),.c (.i .i64 q.2.2),.c (.i .i32 d.1)]),S.H.upd p.1 (.it q.1 q.2.1 (zaN q.2.2 d.2)))) (Utf8.decode ⟨(dec q.1 q.2.1).toArray⟩ q.2.2))
  (some (some (.t [.c (.b false)]),S.H))) none) none
def uMp(d:TypeDesc):Option (Nat×Nat):=match d with|.map k e=>some (k,e)|_=>none
noncomputable def tMp(t:Nat):Option (Nat×Nat):=ob (C.P.underlying t) uMp
noncomputable def SC.asM:SC->Option Nat:=SC.rec (fun _=>none) (fun _ _=>none) (fun _ _=>none) none none none none none (fun _ _=>none) (fun _ _=>none) (fun _ _ _ _=>none) (fun _ _=>none) (fun _=>none) some (fun _ _ _ _=>none)
noncomputable def HB.asM:HB->Option (List (SC×SC)):=HB.rec (fun _ _ _=>none) (fun _ _ _=>none) (fun _ _ _ _ _ _ _=>none) none none some
noncomputable def keq(x y:SC):Option Bool:=
 zaj (ob x.asS fun p=>ob y.asS fun q=>some (seq p.1 p.2 q.1 q.2)) (fun p=>ob y.asI fun q=>bi (zai (kn p.1) (kn q.1)) (some (ieqN p.1 p.2 q.2)) none) x.asI
noncomputable def mfind(x:SC)(es:List (SC×SC)):Option (Option (Nat×SC)):=
 zaO (some none) (fun e _ r=>ob (keq x e.1) fun b=>bi b (some (some (nat_lit 0,e.2))) (ob r fun q=>some (zaj none (fun z=>some (zaR z.1,z.2)) q))) es
noncomputable def mput(es:List (SC×SC))(x:SC×SC):Nat->List (SC×SC):=zaO (fun _=>[]) (fun e et r j=>bi (zai j (nat_lit 0)) (x::et) (e::r (Nat.sub j (nat_lit 1)))) es
noncomputable def keyOk(t:Nat)(x:SC):Option Unit:=ob (C.P.underlying t) fun d=>match d with
 |.int k=>ob x.asI fun q=>bi (zai (kn q.1) (kn k)) (some ()) none
 |.string=>ob x.asS fun _=>some ()
 |_=>none
noncomputable def wMakeMap(t:Nat)(r:Option Operand):WR':=ob (tMp C t) fun _=>ob (evND m S r (nat_lit 0)) fun _=>some (some (.c (.m S.H.nx)),S.H.add (.mp []))
noncomputable def wLookup(t:Nat)(x ix:Operand)(ok:Bool):WR':=
 ob (tMp C t) fun q=>ob (evC m S x) fun v=>ob v.asM fun i=>ob (S.H.t.get i) fun b=>ob b.asM fun es=>ob (evC m S ix) fun k=>ob (keyOk C q.1 k) fun _=>
  ob (mfind k es) fun r=>ob (zaj (ob (sval C.P (zeroValue q.2)) cvc) (fun z=>some z.2) r) fun y=>some (some (bi ok (.t [.c y,.c (.b r.isSome)]) (.c y)),S.H)
noncomputable def wMapUpd(t:Nat)(x ix y:Operand):WR':=
 ob (tMp C t) fun q=>ob (evC m S x) fun v=>ob v.asM fun i=>ob (S.H.t.get i) fun b=>ob b.asM fun es=>ob (evC m S ix) fun k=>ob (keyOk C q.1 k) fun _=>
  ob (evC m S y) fun z=>ob (mfind k es) fun r=>some (none,S.H.upd i (.mp (zaj (lapp es [(k,z)]) (fun p=>mput es (k,z) p.1) r)))
def isSS:TypeDesc->Bool
 |.slice _=>true
 |.string=>true
 |_=>false
def uPt(d:TypeDesc):Option Nat:=match d with|.pointer e=>some e|_=>none
noncomputable def tPt(t:Nat):Option Nat:=ob (C.P.underlying t) uPt
noncomputable def capOk(i n:Nat)(c:Cp):Bool:=Cp.rec (fun cc=>zam n cc) (fun off=>room S i (zaN off n)) c
noncomputable def wSD(x:Operand):WR':=
 ob (evC m S x) fun v=>SC.rec (motive:=fun _=>WR') (fun _=>none) (fun _ _=>none) (fun _ _=>none) none (some (some (.c .np),S.H)) none none none (fun _ _=>none) (fun _ _=>none)
  (fun i base n c=>bi (zam (nat_lit 1) n) (bi (capOk S i n c) (some (some (.c (.p i base)),S.H)) none) none) (fun _ _=>none) (fun _=>none) (fun _=>none) (fun _ _ _ _=>none) v
noncomputable def SC.isPt:SC->Bool:=SC.rec (fun _=>false) (fun _ _=>false) (fun _ _=>false) true false false false false (fun _ _=>true) (fun _ _=>false) (fun _ _ _ _=>false) (fun _ _=>false) (fun _=>false) (fun _=>false) (fun _ _ _ _=>false)
noncomputable def wUS(pt:Nat)(x y:Operand):WR':=
 ob (evI m S y) fun k=>ob (evC m S x) fun v=>bi (zai k (nat_lit 0)) (bi v.isPt (some (some (.c (.s (nat_lit 0) (nat_lit 0))),S.H)) none)
  (ob v.asP fun p=>bi (zai p.2 (nat_lit 0)) (ob (S.H.t.get p.1) fun b=>ob b.asC fun q=>ob (tPt C pt) fun e=>bi (zai q.1 e) (bi (zai (C.P.cellsOf e) (nat_lit 1))
   (bi (Mo.rec true (fun _ _=>true) false false q.2.1) (bi (zam k (aid q.2.2)) (ob (encC (ltake q.2.2 k)) fun z=>some (some (.c (.s k z)),S.H.upd p.1 .gn)) none) none) none) none) none)
noncomputable def wCall(o:Oper)(c:Call):WR':=
 match c.callee,c.args.toList,c.argTypes.toList with
 |.builtin .unsafeSliceData,[x],_=>wSD m S x
 |.builtin .unsafeString,[x,y],[pt,_]=>wUS C m S pt x y
 |.builtin .append,[x,y],[t,u]=>ob (C.P.underlying u) fun d=>bi (isSS d) (wAppend C m S t x y) (wAppZ C m S t d x y)
 |.builtin .copy,[x,y],[t,_]=>wCopy C m S t x y
 |.builtin .clear,[x],[t]=>wClear C m S t x
 |_,_,_=>wVal S (opCallV C m S o c)
end
abbrev WF:=Cx->M->T->Oper->WR'
noncomputable def wGen:WF:=fun C m S o=>wVal S (gen C m S o)
noncomputable def opW(op:Op):WF:=Op.rec (motive:=fun _=>WF)
 (fun x _ m S _=>wVal S (evO m S x))
 (fun x _ m S _=>wVal S (evO m S x))
 (fun c a b _ m S _=>wVal S (opPick m S c a b))
 (fun t C m S _=>wAlloc C S t)
 (fun t x C m S _=>wBox m S t x)
 (fun t ps C m S _=>wVal S (opBuild C m S t ps))
 (fun t n ps C m S _=>wBuildSlice C m S t n ps)
 (fun t x k y C m S _=>wMapUpd C m S t x k y)
 (fun t x C m S _=>wVal S (opLoad C m S t x))
 (fun t x y C m S _=>wStore C m S t x y)
 (fun _=>wGen)
 (fun _=>wGen)
 (fun x _ m S _=>wVal S (opNil m S x))
 (fun b t x y _ C m S o=>wVal S (opBin C m S o b t x y))
 (fun u _ x C m S o=>wVal S (opNot C m S o u x))
 (fun s t x C m S o=>wConv C m S o s t x)
 (fun _ _=>wGen)
 (fun _ _=>wGen)
 (fun f a b _ m S _=>wVal S (opFunc m S f a b))
 (fun t r C m S _=>wMakeMap C m S t r)
 (fun _ _=>wGen)
 (fun t x y C m S _=>wMake C m S t x y)
 (fun t x lo hi mx C m S _=>wVal S (opSlice C m S t x lo hi mx))
 (fun t x f C m S _=>wVal S (opFieldAddr C m S t x f))
 (fun t x f C m S _=>wVal S (opField C m S t x f))
 (fun t x ix C m S _=>wVal S (opIndexAddr C m S t x ix))
 (fun t x ix C m S _=>wVal S (opIndex C m S t x ix))
 (fun t x ix ok C m S _=>wLookup C m S t x ix ok)
 (fun t x k y C m S _=>wMapUpd C m S t x k y)
 (fun _ _ _=>wGen)
 (fun _ _ _ _=>wGen)
 (fun t x C m S _=>wRange C m S t x)
 (fun x b C m S _=>wNext m S x b)
 (fun _=>wGen)
 (fun _ _ _ _=>wGen)
 (fun x i _ m S _=>wVal S (opExtract m S x i))
 (fun c C m S o=>wCall C m S o c)
 (fun _=>wGen)
 (fun _=>wGen)
 (fun _=>wGen)
 (fun _ _=>wGen)
 (fun _ _ _=>wGen)
 (fun _ _=>wGen)
 op
abbrev Ev:=M->Code->T->Option (Ex×T)
abbrev Ef:=Ks->M->T->Option (Ex×T)
noncomputable def dset(F:Tr SV)(d:Option Nat)(v:SV):Tr SV:=zaj F (fun d=>F.set d v) d
noncomputable def evL(m:M)(S:T)(l:List Operand):Option (List SV):=zaO (some []) (fun x _ r=>ob (evO m S x) fun v=>ob r fun q=>some (v::q)) l
noncomputable def ptrs(l:List Nat):List SV:=zaO [] (fun i _ r=>.c (.p i (nat_lit 0))::r) l
noncomputable def setL(F:Tr SV)(k:Nat)(l:List SV):Tr SV:=(zaO (fun F _=>F) (fun v _ r F k=>r (F.set k v) (zaR k)) l:Tr SV->Nat->Tr SV) F k
noncomputable def updP(F:Tr SV)(ps:List Nat)(vs:List SV):Option (Tr SV):=
 (zaO (fun F vs=>bi vs.isEmpty (some F) none) (fun p _ r F vs=>zaO none (fun v vt _=>r (F.set p v) vt) vs) ps:Tr SV->List SV->Option (Tr SV)) F vs
noncomputable def HB.asL:HB->Option (Bool×Nat×Nat×List Nat×Code×Code×Tr SV):=HB.rec (fun _ _ _=>none) (fun _ _ _=>none) (fun b j k ps a c F=>some (b,j,k,ps,a,c,F)) none none (fun _=>none)
noncomputable def jx:Ex->Nat:=Ex.rec (nat_lit 0) (nat_lit 1) (fun id=>zaN id (nat_lit 2))
noncomputable def lpAt(H:Hs)(i:Nat)(busy:Bool):Option (Nat×Nat×List Nat×Code×Code×Tr SV):=ob (H.t.get i) fun b=>ob b.asL fun q=>bi (bi busy q.1 (inot q.1)) (some q.2) none
abbrev Lq:=Nat×Nat×List Nat×Code×Code×Tr SV
noncomputable def lpPut(q:Lq)(busy:Bool)(j:Nat)(H:Hs)(i:Nat):Hs:=H.upd i (.lp busy j q.2.1 q.2.2.1 q.2.2.2.1 q.2.2.2.2.1 q.2.2.2.2.2)
noncomputable def yield3(i:Nat)(r:Ex×T):Option (SV×Hs):=
 ob (lpAt r.2.H i true) fun q=>bi r.2.D.isNone (some (.c (.b (zai (jx r.1) (nat_lit 0))),lpPut q false (jx r.1) r.2.H i)) none
noncomputable def yield2(E:Ev)(i k:Nat)(body:Code)(S:T):Option (SV×Hs):=
 ob (lpAt S.H i false) fun q=>bi (zai q.1 (nat_lit 0)) (bi S.D.isNone (ob (E ⟨k,some (some i)⟩ body ⟨S.F,lpPut q true (nat_lit 0) S.H i,none⟩) (yield3 i)) none) none
noncomputable def yieldE(E:Ev)(i:Nat)(vs:List SV)(H:Hs):Option (SV×Hs):=
 ob (lpAt H i false) fun q=>bi (zai q.1 (nat_lit 0)) (ob (updP q.2.2.2.2.2 q.2.2.1 vs) fun F1=>ob (E ⟨q.2.1,some (some i)⟩ q.2.2.2.1 ⟨F1,H,none⟩) fun r=>
  Ex.rec (yield2 E i q.2.1 q.2.2.2.2.1 r.2) none (fun _=>none) r.1) none
noncomputable def callE(K:Ks)(m:M)(S:T)(f:Operand)(args:Array Operand)(ds:Bool):Option (SV×Hs):=
 ob (evL m S args.toList) fun vs=>ob (evC m S f) fun g=>SC.rec (motive:=fun _=>Option (SV×Hs)) (fun _=>none) (fun _ _=>none) (fun _ _=>none) none none none none none (fun _ _=>none) (fun _ _=>none) (fun _ _ _ _=>none)
  (fun k cs=>K.call k (lapp vs (ptrs cs)) S.H) (fun i=>bi ds (bi m.m.isSome (yieldE K.run i vs S.H) none) none) (fun _=>none) (fun _ _ _ _=>none) g
section
variable (C : Cx)
noncomputable def opO(m:M)(S:T)(o:Oper):Option T:=
 ob (opW o.op C m S o) fun r=>zaj (bi o.dst.isNone (some ⟨S.F,r.2,S.D⟩) none) (fun v=>zaj (motive:=fun _=>Option T) (some ⟨S.F,r.2,S.D⟩) (fun d=>some ⟨S.F.set d v,r.2,S.D⟩) o.dst) r.1
def isCall:Op->Option (Operand×Array Operand)
 |.call c=>match c.callee with
  |.value f=>some (f,c.args)
  |_=>none
 |_=>none
noncomputable def SC.isZ:SC->Bool:=SC.rec (fun _=>false) (fun _ _=>false) (fun _ _=>false) false false false false false (fun _ _=>false) (fun _ _=>false) (fun _ _ _ _=>false) (fun _ _=>false) (fun _=>false) (fun _=>false) (fun _ _ _ _=>true)
noncomputable def SC.asF:SC->Option Nat:=SC.rec (fun _=>none) (fun _ _=>none) (fun _ _=>none) none none none none none (fun _ _=>none) (fun _ _=>none) (fun _ _ _ _=>none) (fun k l=>bi l.isEmpty (some k) none) (fun _=>none) (fun _=>none) (fun _ _ _ _=>none)
noncomputable def ovlK(S:T)(a b:SC):Option SV:=
 ob a.asL fun i=>zaj (bi b.isZ (some (.c (.b false))) none) (fun j=>bi (zai i j) none (ob (S.H.t.get i) fun p=>ob p.asC fun q=>bi (Mo.rec true (fun _ _=>false) false false q.2.1)
  (ob (S.H.t.get j) fun p'=>ob p'.asC fun q'=>bi (zam (nat_lit 1) (aid q'.2.2)) (some (.c (.b false))) none) none)) b.asL
noncomputable def ovlE(m:M)(S:T)(f:Operand)(args:Array Operand):Option SV:=
 match args.toList with
 |[x,y]=>ob (evC m S f) fun g=>ob g.asF fun k=>bi (C.V k) (ob (evC m S x) fun a=>ob (evC m S y) fun b=>ovlK S a b) none
 |_=>none
noncomputable def op1(K:Ks)(m:M)(S:T)(o:Oper):Option T:=
 zaj (opO C m S o) (fun c=>zaj (ob (callE K m S c.1 c.2 o.dst.isSome) fun r=>some ⟨dset S.F o.dst r.1,r.2,S.D⟩) (fun v=>ob o.dst fun d=>some ⟨S.F.set d v,S.H,S.D⟩) (ovlE C m S c.1 c.2)) (isCall o.op)
noncomputable def gval(v:SV)(b:Bool):Option Bool:=SV.rec (fun x=>ob x.asB fun t=>some (bi t b (inot b))) (fun _=>none) (fun _=>none) (some false) v
noncomputable def opG(K:Ks)(m:M)(ops:Array Oper)(S:T)(o:Oper):Option T:=
 zaj (op1 C K m S o) (fun q=>ob ((ops[q.1]?).bind (·.dst)) fun dg=>ob o.dst fun d=>bi (zam (zaR dg) m.n) (ob (gval (oget (S.F.get dg)) q.2) fun b=>
  bi b (op1 C K m S o) (some ⟨S.F.set d .u,S.H,S.D⟩)) none) o.guard
noncomputable def opsE(K:Ks)(m:M)(ops:Array Oper)(l:List Oper):T->Option T:=
 zaO (fun S=>some S) (fun o _ r S=>ob (opG C K m ops S o) r) l
noncomputable def oeq(a b:Option Nat):Bool:=zaj b.isNone (fun x=>zaj false (fun y=>zai x y) b) a
abbrev RT:=Option (Ex×T)
noncomputable def onX(r:RT)(nm rt:T->RT)(xt:Nat->T->RT):RT:=zaj none (fun p=>Ex.rec (nm p.2) (rt p.2) (fun id=>xt id p.2) p.1) r
noncomputable def kRt:T->RT:=fun S=>some (.rt,S)
noncomputable def kNm:T->RT:=fun S=>some (.nm,S)
noncomputable def kXt:Nat->T->RT:=fun id S=>some (.xt id,S)
noncomputable def eSkip:Ef:=fun _ _ S=>some (.nm,S)
noncomputable def isLC(c:Call):Bool:=match c.callee with
 |.builtin .len=>true
 |.builtin .cap=>true
 |_=>false
noncomputable def kindV(op:Op):Nat:=Op.rec (motive:=fun _=>Nat)
 (fun _=>nat_lit 0)
 (fun _=>nat_lit 0)
 (fun _ _ _=>nat_lit 0)
 (fun _=>nat_lit 2)
 (fun _ _=>nat_lit 2)
 (fun _ _=>nat_lit 0)
 (fun _ _ _=>nat_lit 2)
 (fun _ _ _ _=>nat_lit 2)
 (fun _ _=>nat_lit 1)
 (fun _ _ _=>nat_lit 2)
 (fun _=>nat_lit 2)
 (fun _=>nat_lit 2)
 (fun _=>nat_lit 0)
 (fun _ _ _ _ _=>nat_lit 0)
 (fun _ _ _=>nat_lit 0)
 (fun s t _=>bi (or (tSl C s).isSome (tSl C t).isSome) (nat_lit 2) (nat_lit 0))
 (fun _ _=>nat_lit 2)
 (fun _ _=>nat_lit 2)
 (fun _ _ _=>nat_lit 0)
 (fun _ _=>nat_lit 2)
 (fun _ _=>nat_lit 2)
 (fun _ _ _=>nat_lit 2)
 (fun _ _ _ _ _=>nat_lit 0)
 (fun _ _ _=>nat_lit 0)
 (fun _ _ _=>nat_lit 0)
 (fun _ _ _=>nat_lit 0)
 (fun _ _ _=>nat_lit 0)
 (fun _ _ _ _=>nat_lit 2)
 (fun _ _ _ _=>nat_lit 2)
 (fun _ _ _=>nat_lit 2)
 (fun _ _ _ _=>nat_lit 2)
 (fun _ _=>nat_lit 2)
 (fun _ _=>nat_lit 2)
 (fun _=>nat_lit 2)
 (fun _ _ _ _=>nat_lit 2)
 (fun _ _=>nat_lit 0)
 (fun c=>bi (isLC c) (nat_lit 0) (nat_lit 2))
 (fun _=>nat_lit 2)
 (fun _=>nat_lit 2)
 (fun _=>nat_lit 2)
 (fun _ _=>nat_lit 2)
 (fun _ _ _=>nat_lit 2)
 (fun _ _=>nat_lit 2)
 op
inductive Pl where
 |dn
 |pu (i:Nat) (o:Oper) (d:Nat) (n:Pl)
 |ld (i:Nat) (o:Oper) (d:Nat) (D:List Nat) (n:Pl)
 |on (i:Nat) (o:Oper) (n:Pl)
 |tw (i:Nat) (o:Oper) (n:Pl) (j:Nat) (o':Oper) (n':Pl)
noncomputable def qf(ops:Array Oper)(k:Nat)(l:List Bool)(i:Nat):Bool:=
 bi (zay i k) (zaj false (fun o=>bi (zam (kindV C o.op) (nat_lit 1)) (bi o.dst.isSome (Region.free .any ops l.toArray i) false) false) ops[i]?) false
noncomputable def descOf(ops:Array Oper)(i:Nat):List Nat:=
 (List.range ops.size).foldl (fun D j=>match ops[j]? with
  |some o=>if o.after.any (fun e=>Region.binds .any e&&zay e.on j&&(zai e.on i||D.contains e.on))then D++[j]else D
  |none=>D) []
noncomputable def stepQ(ops:Array Oper)(r:List Bool->Option Pl)(l:List Bool)(i:Nat):Option Pl:=
 ob ops[i]? fun o=>ob o.dst fun d=>ob (r (l.set i true)) fun n=>bi (zai (kindV C o.op) (nat_lit 0)) (some (.pu i o d n)) (bi (descB .any ops i (descOf ops i)) (some (.ld i o d (descOf ops i) n)) none)
noncomputable def stepL(ops:Array Oper)(k:Nat)(r:List Bool->Option Pl)(l:List Bool)(rd:List Nat):Option Pl:=
 match rd with
 |[i]=>bi (zay i k) (ob ops[i]? fun o=>ob (r (l.set i true)) fun n=>some (.on i o n)) none
 |[i,j]=>bi (zay i k) (bi (zay j k) (ob ops[i]? fun o=>ob ops[j]? fun o'=>ob (r (l.set i true)) fun n=>ob (r (l.set j true)) fun n'=>some (.tw i o n j o' n')) none) none
 |_=>none
noncomputable def planE(ops:Array Oper)(k f:Nat):List Bool->Option Pl:=Nat.rec
 (fun l=>bi (Region.seqB .any ops (ops.size-k) k l.toArray) (some .dn) none)
 (fun _ r l=>zaj (stepL ops k r l (Region.ready .any ops l.toArray)) (stepQ C ops r l) ((Region.ready .any ops l.toArray).find? (qf C ops k l))) f
noncomputable def kOf(ops:Array Oper)(n:Nat):Nat:=Nat.rec (nat_lit 0) (fun n r=>bi (aft ops n) r (zaR n)) n
noncomputable def planK(ops:Array Oper)(k:Nat):Option (Nat×Pl):=bi (aft ops k) (ob (planE C ops k k (zag ops.size false)) fun p=>some (k,p)) none
noncomputable def planOf(ops:Array Oper):Option (Nat×Pl):=planK C ops (kOf ops ops.size)
structure Fa where
 D:List Nat
 x:SC
 t:Nat
 v:SV
abbrev Dr:=T×List Fa×List (Nat×Hs)
noncomputable def S0(S:T):T:=⟨S.F,⟨S.H.nx,.e⟩,S.D⟩
noncomputable def Cx.bare(C:Cx):Cx:=⟨C.P,fun _=>none,C.X,C.pure,C.V⟩
noncomputable def gpass(m:M)(ops:Array Oper)(S:T)(o:Oper):Option Bool:=
 zaj (some true) (fun q=>ob ((ops[q.1]?).bind (·.dst)) fun dg=>bi (zam (zaR dg) m.n) (gval (oget (S.F.get dg)) q.2) none) o.guard
def slOf:Op->Option (Nat×Operand×Option Operand×Option Operand×Option Operand)
 |.slice t x lo hi mx=>some (t,x,lo,hi,mx)
 |_=>none
noncomputable def valB(m:M)(S:T)(o:Oper):Option SV:=
 zaj (opV o.op C.bare m (S0 S) o) (fun q=>opSliceR C.bare m (S0 S) (room S) q.1 q.2.1 q.2.2.1 q.2.2.2.1 q.2.2.2.2) (slOf o.op)
def ldOf:Op->Option (Nat×Operand)
 |.load t x=>some (t,x)
 |_=>none
noncomputable def blL(n:Nat)(l:List Nat):Bool:=zaO true (fun i _ r=>bi (zam (zaR i) n) r false) l
noncomputable def SC.okb(n:Nat):SC->Bool:=SC.rec (fun _=>true) (fun _ _=>true) (fun _ _=>true) true true true true true (fun i _=>zam (zaR i) n) (fun _ _=>true) (fun i _ _ _=>zam (zaR i) n) (fun _ l=>blL n l) (fun i=>zam (zaR i) n) (fun i=>zam (zaR i) n) (fun i _ _ _=>zam (zaR i) n)
noncomputable def okL(n:Nat)(l:List SC):Bool:=zaO true (fun x _ r=>bi (x.okb n) r false) l
noncomputable def SV.okb(n:Nat):SV->Bool:=SV.rec (SC.okb n) (okL n) (fun _=>false) true
noncomputable def Cp.eqb:Cp->Cp->Bool:=Cp.rec (fun a=>Cp.rec (zai a) (fun _=>false)) (fun a=>Cp.rec (fun _=>false) (zai a))
noncomputable def beqb(a b:Bool):Bool:=bi a b (inot b)
noncomputable def eqL{α:Type}(q:α->α->Bool)(l r:List α):Bool:=(zaO (fun r=>r.isEmpty) (fun x _ h r=>zaO false (fun y ys _=>bi (q x y) (h ys) false) r) l:List α->Bool) r
noncomputable def SC.eqb(v₁ v₂:SC):Bool:=match v₁,v₂ with
 |.b a₁,.b a₂=>beqb a₁ a₂
 |.i k₁ a₁,.i k₂ a₂=>bi (zai (kn k₁) (kn k₂)) (zai a₁ a₂) false
 |.s l₁ a₁,.s l₂ a₂=>bi (zai l₁ l₂) (zai a₁ a₂) false
 |.np,.np=>true
 |.ns,.ns=>true
 |.nf,.nf=>true
 |.ni,.ni=>true
 |.nm,.nm=>true
 |.p l₁ a₁,.p l₂ a₂=>bi (zai l₁ l₂) (zai a₁ a₂) false
 |.g l₁ a₁,.g l₂ a₂=>bi (zai l₁ l₂) (zai a₁ a₂) false
 |.sl l₁ a₁ n₁ c₁,.sl l₂ a₂ n₂ c₂=>bi (zai l₁ l₂) (bi (zai a₁ a₂) (bi (zai n₁ n₂) (Cp.eqb c₁ c₂) false) false) false
 |.fn l₁ c₁,.fn l₂ c₂=>bi (zai l₁ l₂) (eqL zai c₁ c₂) false
 |.y l₁,.y l₂=>zai l₁ l₂
 |.m l₁,.m l₂=>zai l₁ l₂
 |.z l₁ a₁ n₁ c₁,.z l₂ a₂ n₂ c₂=>bi (zai l₁ l₂) (bi (zai a₁ a₂) (bi (zai n₁ n₂) (zai c₁ c₂) false) false) false
 |_,_=>false
noncomputable def SA.eqb:SA->SA->Bool:=SA.rec (fun x=>SA.rec (SC.eqb x) (fun _=>false)) (fun l=>SA.rec (fun _=>false) (eqL SC.eqb l))
noncomputable def SV.eqb:SV->SV->Bool:=SV.rec (fun x=>SV.rec (SC.eqb x) (fun _=>false) (fun _=>false) false) (fun l=>SV.rec (fun _=>false) (eqL SC.eqb l) (fun _=>false) false)
 (fun l=>SV.rec (fun _=>false) (fun _=>false) (eqL SA.eqb l) false) (SV.rec (fun _=>false) (fun _=>false) (fun _=>false) true)
noncomputable def Mo.eqb:Mo->Mo->Bool:=Mo.rec (Mo.rec true (fun _ _=>false) false false) (fun a b=>Mo.rec false (fun a' b'=>bi (zai a a') (zai b b') false) false false) (Mo.rec false (fun _ _=>false) true false) (Mo.rec false (fun _ _=>false) false true)
noncomputable def P2.eqb(x y:SC×SC):Bool:=bi (SC.eqb x.1 y.1) (SC.eqb x.2 y.2) false
noncomputable def HB.eqb(v₁ v₂:HB):Bool:=match v₁,v₂ with
 |.mp l₁,.mp l₂=>eqL P2.eqb l₁ l₂
 |.cl t₁ m₁ l₁,.cl t₂ m₂ l₂=>bi (zai t₁ t₂) (bi (Mo.eqb m₁ m₂) (eqL SC.eqb l₁ l₂) false) false
 |.it l₁ a₁ p₁,.it l₂ a₂ p₂=>bi (zai l₁ l₂) (bi (zai a₁ a₂) (zai p₁ p₂) false) false
 |.df,.df=>true
 |.gn,.gn=>true
 |_,_=>false
noncomputable def oeqb{α:Type}(q:α->α->Bool)(x y:Option α):Bool:=zaj y.isNone (fun a=>zaj false (q a) y) x
noncomputable def Tr.eqb{α:Type}(q:α->α->Bool)(t:Tr α):Tr α->Bool:=
 Tr.rec (Tr.rec true (fun _ _ _ _ _=>false)) (fun _ v _ hl hr=>Tr.rec false (fun l' v' r' _ _=>bi (oeqb q v v') (bi (hl l') (hr r') false) false)) t
noncomputable def T.eqb(S S':T):Bool:=bi (zai S.H.nx S'.H.nx) (bi (oeq S.D S'.D) (bi (S.F.eqb SV.eqb S'.F) (S.H.t.eqb HB.eqb S'.H.t) false) false) false
noncomputable def drawP(K:Ks)(m:M)(ops:Array Oper)(pl:Pl):T->Option Dr:=Pl.rec
 (fun S=>some (S,[],[]))
 (fun _ o d _ r S=>ob (gpass m ops S o) fun g=>bi g (ob (valB C m S o) fun v=>r ⟨S.F.set d v,S.H,S.D⟩) (r ⟨S.F.set d .u,S.H,S.D⟩))
 (fun _ o d D _ r S=>ob (gpass m ops S o) fun g=>bi g (ob (ldOf o.op) fun q=>ob (evC m S q.2) fun y=>ob (loadC C S q.1 y) fun v=>
  ob (r ⟨S.F.set d v,S.H,S.D⟩) fun p=>some (p.1,⟨D,y,q.1,v⟩::p.2.1,p.2.2)) (r ⟨S.F.set d .u,S.H,S.D⟩))
 (fun i o _ r S=>ob (opG C K m ops S o) fun S1=>ob (r S1) fun p=>some (p.1,p.2.1,(i,S1.H)::p.2.2))
 (fun i o _ j o' _ r r' S=>ob (opG C K m ops S o) fun S1=>ob (r S1) fun p=>ob (opG C K m ops S o') fun S2=>ob (r' S2) fun p'=>
  bi (p.1.eqb p'.1) (some (p.1,lapp p.2.1 p'.2.1,(i,S1.H)::(j,S2.H)::lapp p.2.2 p'.2.2)) none) pl
noncomputable def chk1(j:Nat)(H:Hs)(f:Fa):Bool:=bi (f.D.contains j) true (zaj false (fun v=>SV.eqb f.v v) (loadC C ⟨.e,H,none⟩ f.t f.x))
noncomputable def chk(nx0:Nat)(fs:List Fa)(sn:List (Nat×Hs)):Bool:=bi (fs.all fun f=>bi (f.x.okb nx0) (f.v.okb nx0) false) (sn.all fun p=>fs.all (chk1 C p.1 p.2)) false
def isDefr:Op->Bool
 |.defer _=>true
 |_=>false
noncomputable def noDf(ops:Array Oper):Bool:=ops.toList.all fun o=>inot (isDefr o.op)
noncomputable def drawE(K:Ks)(m:M)(ops:Array Oper)(S:T):Option T:=
 bi (or m.m.isNone (noDf ops)) (ob (planOf C ops) fun p=>ob (drawP C K m ops p.2 S) fun r=>bi (chk C S.H.nx r.2.1 r.2.2) (opsE C K m ops (ldrop ops.toList p.1) r.1) none) none
noncomputable def eRegion(_:Nat)(ops:Array Oper)(d:Bool):Ef:=fun K m S=>bi d (ob (drawE C K m ops S) kNm) (ob (opsE C K m ops ops.toList S) kNm)
noncomputable def eSeq(_ _:Code)(a b:Ef):Ef:=fun K m S=>onX (a K m S) (b K m) kRt kXt
noncomputable def eCond(c:Operand)(_ _:Code)(a b:Ef):Ef:=fun K m S=>ob (evC m S c) fun v=>ob v.asB fun t=>bi t (a K m S) (b K m S)
noncomputable def eBlock(id:Nat)(_:Code)(b:Ef):Ef:=fun K m S=>onX (b K m S) kNm kRt fun i S=>bi (zai i id) (some (.nm,S)) (some (.xt i,S))
noncomputable def FU:Nat:=nat_lit 1000000000
noncomputable def rounds(b:Ef)(f:Nat):Ef:=Nat.rec (fun _ _ _=>none) (fun _ r K m S=>onX (b K m S) (fun S'=>bi (oeq S.D S'.D) (r K m S') none) kRt kXt) f
noncomputable def eLoop(_:Code)(b:Ef):Ef:=rounds b FU
noncomputable def eRange(f:Operand)(ps:Array Nat)(asg body:Code)(_ _:Ef):Ef:=fun K m S=>
 ob m.m fun mm=>bi mm.isNone (bi S.D.isNone (ob (evC m S f) fun g=>SC.rec (motive:=fun _=>RT) (fun _=>none) (fun _ _=>none) (fun _ _=>none) none none none none none (fun _ _=>none) (fun _ _=>none) (fun _ _ _ _=>none)
  (fun k cs=>ob (K.call k (.c (.y (zaR S.H.nx))::ptrs cs) ((S.H.add .df).add (.lp false (nat_lit 0) m.n ps.toList asg body S.F))) fun r=>ob (lpAt r.2 (zaR S.H.nx) false) fun q=>
   (fun S':T=>Nat.rec (some (.nm,S')) (fun j _=>Nat.rec (some (.rt,S')) (fun id _=>some (.xt id,S')) j) q.1) ⟨S.F,r.2.upd (zaR S.H.nx) .gn,some S.H.nx⟩) (fun _=>none) (fun _=>none) (fun _ _ _ _=>none) g) none) none
noncomputable def eExit(id:Nat):Ef:=fun _ _ S=>some (.xt id,S)
noncomputable def eScope(_:Code)(b:Ef):Ef:=fun K m S=>bi m.m.isNone (b K m S) none
noncomputable def eRet:Ef:=fun _ _ S=>some (.rt,S)
noncomputable def eNone:Ef:=fun _ _ _=>none
noncomputable def exec(c:Code):Ef:=Code.rec (motive:=fun _=>Ef) eSkip (eRegion C) eSeq eCond eBlock eLoop eRange eExit eScope (fun _=>eSkip) (fun _=>eNone) eRet (fun _=>eNone) c
noncomputable def hasRF(c:Code):Bool:=Code.rec false (fun _ _ _=>false) (fun _ _ a b=>or a b) (fun _ _ _ a b=>or a b) (fun _ _ a=>a) (fun _ a=>a) (fun _ _ _ _ _ _=>true) (fun _=>false) (fun _ a=>a) (fun _=>false) (fun _=>false) false (fun _=>false) c
noncomputable def isY:SV->Bool:=SV.rec (SC.rec (fun _=>false) (fun _ _=>false) (fun _ _=>false) false false false false false (fun _ _=>false) (fun _ _=>false) (fun _ _ _ _=>false) (fun _ _=>false) (fun _=>true) (fun _=>false) (fun _ _ _ _=>false)) (fun _=>false) (fun _=>false) false
noncomputable def anyY(l:List SV):Bool:=zaO false (fun x _ r=>bi (isY x) true r) l
noncomputable def resE(m:M)(S:T)(r:ResultVar):Option SA:=ResultVar.rec (fun t=>ob (evO m S (.tmp t)) SV.sa) (fun a t=>ob (opLoad C m S t (.tmp a)) SV.sa) r
noncomputable def resL(m:M)(S:T)(l:List ResultVar):Option (List SA):=zaO (some []) (fun x _ r=>ob (resE C m S x) fun v=>ob r fun q=>some (v::q)) l
noncomputable def oneV(l:List SA):SV:=zaO (.t []) (fun x xs _=>bi xs.isEmpty x.sv (.t (x::xs))) l
noncomputable def HB.isDf:HB->Bool:=HB.rec (fun _ _ _=>false) (fun _ _ _=>false) (fun _ _ _ _ _ _ _=>false) true false (fun _=>false)
noncomputable def undf(S:T):Option T:=zaj (some S) (fun d=>ob (S.H.t.get d) fun b=>bi b.isDf (some ⟨S.F,S.H.upd d .gn,none⟩) none) S.D
noncomputable def mdF(c:Code)(vs:List SV):Option (Option Nat):=bi (hasRF c) (some none) (bi (anyY vs) (some none) none)
noncomputable def runF(K:Ks)(fn:Func)(c:Code)(vs:List SV)(H:Hs):Option (SV×Hs):=
 onX' (exec C c K ⟨fn.ntmps,mdF c vs⟩ ⟨setL .e (nat_lit 0) vs,H,none⟩) fun S=>
  bi (or S.D.isNone (mdF c vs).isSome) (ob (undf S) fun S=>ob (resL C ⟨fn.ntmps,none⟩ S fn.results.toList) fun l=>some (oneV l,S.H)) none
where
 onX' (r:RT) (k:T->Option (SV×Hs)):Option (SV×Hs):=zaj none (fun p=>Ex.rec (k p.2) (k p.2) (fun _=>none) p.1) r
noncomputable def bodyE(K:Ks)(k:Nat)(vs:List SV)(H:Hs):Option (SV×Hs):=
 ob (C.P.funcs[k]?) fun fn=>ob fn.body fun c=>bi (zam (aid vs) fn.ntmps) (runF C K fn c vs H) none
noncomputable def SC.pl:SC->Bool:=SC.rec (fun _=>true) (fun _ _=>true) (fun _ _=>true) true true true true true (fun _ _=>false) (fun _ _=>true) (fun _ _ _ _=>false) (fun _ l=>l.isEmpty) (fun _=>false) (fun _=>false) (fun _ _ _ _=>false)
noncomputable def plL(l:List SC):Bool:=zaO true (fun x _ r=>bi x.pl r false) l
noncomputable def SA.pl:SA->Bool:=SA.rec SC.pl plL
noncomputable def plT(l:List SA):Bool:=zaO true (fun x _ r=>bi x.pl r false) l
noncomputable def SV.pl:SV->Bool:=SV.rec SC.pl plL plT true
noncomputable def plV(l:List SV):Bool:=zaO true (fun x _ r=>bi x.pl r false) l
noncomputable def H0:Hs:=⟨nat_lit 0,.e⟩
noncomputable def callK(K:Ks)(k:Nat)(vs:List SV)(H:Hs):Option (SV×Hs):=
 zaj (bi (C.pure k) (bi (plV vs) (ob (bodyE C K k vs H0) fun r=>bi r.1.pl (some (r.1,H)) none) none) (bodyE C K k vs H)) (fun f=>f vs H) (C.X k)
noncomputable def lev(n:Nat):Ks:=Nat.rec ⟨fun _ _ _=>none,fun _ _ _=>none⟩ (fun _ K=>⟨callK C K,fun m c S=>exec C c K m S⟩) n
end
open Go.Wk
open Bool renaming eq_iff_iff -> zbb
open List renaming cons_append -> zaz, drop_succ_cons -> zbg, length_cons -> zaf, length_map -> zax, map_append -> zbc, map_congr_left -> zbh, mem_of_mem_take -> zaL
open Nat renaming beq -> zai, ble -> zam, eq_of_beq_eq_true -> zaU, lt_of_lt_of_le -> zal, lt_succ_self -> zad, succ -> zaR
open Option renaming map_some -> zaJ, rec -> zaj
open UInt8 renaming ofNat -> zaQ
theorem aaz{α:Type}(c:Bool)(x y:α):bi c x y=if c=true then x else y:=by cases c<;>rfl
theorem aac{α:Type}{c:Bool}{x:Option α}{v:α}(h:bi c x none=some v):c=true/\x=some v:=by
 cases c with
 |false=>cases h
 |true=>exact⟨rfl,h⟩
theorem aab{α β:Type}{x:Option α}{f:α->Option β}{v:β}(h:ob x f=some v):∃a,x=some a/\f a=some v:=by
 cases x with
 |none=>cases h
 |some a=>exact⟨a,rfl,h⟩
theorem aak(a b:Nat):(zai a b=true)=(a=b):=propext ⟨zaU,fun h=>by subst h;exact Nat.beq_refl a⟩
theorem aaj(a b:Nat):(zam a b=true)=(a<=b):=by simp
def Pk.val:Pk->Nat
 |.h=>0
 |.o p=>2*p.val+2
 |.i p=>2*p.val+1
theorem pkF_val:∀(f k:Nat),k<f->(pkF f k).val=k
 |0,k,h=>by omega
 |f+1,k,h=>by
  show(bi (zai k 0) Pk.h (bi (zai (k%2) 1) (Pk.i (pkF f (k/2))) (Pk.o (pkF f (k/2-1))))).val=k
  simp only [aaz,aak];by_cases h0:k=0
  ·rw [if_pos h0,h0];rfl
  ·rw [if_neg h0];by_cases h1:k%2=1
   ·rw [if_pos h1];show 2*(pkF f (k/2)).val+1=k;rw [pkF_val f _ (by omega)];omega
   ·rw [if_neg h1];show 2*(pkF f (k/2-1)).val+2=k;rw [pkF_val f _ (by omega)];omega
theorem pk_val(k:Nat):(pk k).val=k:=pkF_val (k+1) k (zad k)
theorem pk_inj{k k':Nat}(h:pk k=pk k'):k=k':=by rw [<-pk_val k,h,pk_val]
theorem ajt{α:Type}(x:α):∀(p:Pk) (t:Tr α),Tr.getP p (Tr.setP x p t)=some x
 |.h,t=>rfl
 |.o p,t=>ajt x p t.R
 |.i p,t=>ajt x p t.L
theorem get_setP_ne{α:Type}(x:α):∀(p q:Pk) (t:Tr α),q≠p->Tr.getP q (Tr.setP x p t)=Tr.getP q t
 |.h,.h,t,h=>absurd rfl h
 |.h,.o q,t,_=>rfl
 |.h,.i q,t,_=>rfl
 |.o p,.h,t,_=>rfl
 |.o p,.o q,t,h=>get_setP_ne x p q t.R fun e=>h (by rw [e])
 |.o p,.i q,t,_=>rfl
 |.i p,.h,t,_=>rfl
 |.i p,.o q,t,_=>rfl
 |.i p,.i q,t,h=>get_setP_ne x p q t.L fun e=>h (by rw [e])
theorem Tr.get_set{α:Type}(t:Tr α)(k k':Nat)(x:α):(t.set k x).get k'=if k'=k then some x else t.get k':=by
 by_cases h:k'=k
 ·subst h;rw [if_pos rfl];exact ajt x _ _
 ·rw [if_neg h];exact get_setP_ne x _ _ _ fun e=>h (pk_inj e)
theorem getP_e{α:Type}:∀p:Pk,Tr.getP p (.e:Tr α)=none
 |.h=>rfl
 |.o p=>getP_e p
 |.i p=>getP_e p
theorem Tr.get_e{α:Type}(k:Nat):(Tr.e:Tr α).get k=none:=getP_e _
section
variable {α : Type}
theorem lget_eq:∀(l:List α) (i:Nat),lget l i=l[i]?
 |[],i=>by simp [lget]
 |x::l,0=>rfl
 |x::l,i+1=>by
  show lget l i=_;rw [lget_eq l i];simp
theorem ldrop_eq:∀(l:List α) (i:Nat),ldrop l i=l.drop i
 |[],i=>by simp [ldrop]
 |x::l,0=>rfl
 |x::l,i+1=>by
  show ldrop l i=_;rw [ldrop_eq l i];simp
theorem aia:∀(l:List α) (i:Nat),ltake l i=l.take i
 |[],i=>by simp [ltake]
 |x::l,0=>rfl
 |x::l,i+1=>by
  show x::ltake l i=_;rw [aia l i];simp
theorem abm:∀(l:List α),aid l=l.length
 |[]=>rfl
 |x::l=>by
  show zaR (aid l)=_;rw [abm l];rfl
theorem air:∀(l r:List α),lapp l r=l++r
 |[],r=>rfl
 |x::l,r=>by
  show x::lapp l r=_;rw [air l r];rfl
theorem lput_nil:∀(xs:List α) (k:Nat),lput xs k []=xs
 |[],k=>rfl
 |x::xs,0=>by
  show x::lput xs 0 []=_;rw [lput_nil xs 0]
 |x::xs,k+1=>by
  show x::lput xs k []=_;rw [lput_nil xs k]
theorem lput_eq:∀(xs:List α) (k:Nat) (vs:List α),k+vs.length<=xs.length->lput xs k vs=xs.take k++vs++xs.drop (k+vs.length)
 |xs,k,[],_=>by rw [lput_nil];simp
 |[],k,v::vs,h=>by simp at h
 |x::xs,0,v::vs,h=>by
  show v::lput xs 0 vs=_;rw [lput_eq xs 0 vs (by simp at h⊢;omega)];simp
 |x::xs,k+1,v::vs,h=>by
  show x::lput xs k (v::vs)=_;rw [lput_eq xs k (v::vs) (by simp at h⊢;omega)];simp only [List.take_succ_cons,zaz,zaf];rw [show k+1+(vs.length+1)=(k+(vs.length+1))+1 by omega,zbg]
theorem lput_len(xs:List α)(k:Nat)(vs:List α)(h:k+vs.length<=xs.length):(lput xs k vs).length=xs.length:=by
 rw [lput_eq xs k vs h];simp;omega
theorem lput_mem(xs:List α)(k:Nat)(vs:List α)(h:k+vs.length<=xs.length)(p:α->Prop)(h1:∀x∈xs,p x)(h2:∀x∈vs,p x):∀x∈lput xs k vs,p x:=by
 rw [lput_eq xs k vs h];intro x hx;simp only [List.mem_append]at hx;rcases hx with(hx|hx)|hx
 ·exact h1 x (zaL hx)
 ·exact h2 x hx
 ·exact h1 x (List.mem_of_mem_drop hx)
end
theorem aby:∀(l x:Nat),(dec l x).length=l
 |0,x=>rfl
 |l+1,x=>by simp [dec,aby l]
theorem dec_enc:∀l:List UInt8,dec l.length (enc l)=l
 |[]=>rfl
 |c::l=>by
  have h:c.toNat<256:=c.toNat_lt;have h1:(c.toNat+256*enc l)%256=c.toNat:=by omega
  have h2:(c.toNat+256*enc l)/256=enc l:=by omega
  simp only [zaf,dec,enc,h1,h2];rw [dec_enc l];simp
theorem dec_drop:∀(i l x:Nat),(dec l x).drop i=dec (l-i) (x/256^i)
 |0,l,x=>by simp
 |i+1,0,x=>by simp [dec]
 |i+1,l+1,x=>by
  simp only [dec,zbg];rw [dec_drop i l,Nat.div_div_eq_div_mul,Nat.pow_succ',Nat.add_sub_add_right]
theorem dec_take:∀(i l x:Nat),i<=l->(dec l x).take i=dec i x
 |0,l,x,_=>by simp [dec]
 |i+1,0,x,h=>by omega
 |i+1,l+1,x,h=>by
  simp only [dec,List.take_succ_cons];rw [dec_take i l _ (by omega)]
theorem dec_get(i l x:Nat)(h:i<l):(dec l x)[i]? =some (zaQ (x/256^i%256)):=by
 have h1:(dec l x)[i]? =((dec l x).drop i)[0]? :=by simp
 rw [h1,dec_drop];obtain⟨m,hm⟩:∃m,l-i=m+1:=⟨l-i-1,by omega⟩
 rw [hm];rfl
theorem dec_mod:∀(l x:Nat),dec l (x%256^l)=dec l x
 |0,x=>rfl
 |l+1,x=>by
  have h1:x%256^(l+1)%256=x%256:=Nat.mod_mod_of_dvd x (Nat.pow_succ'▸Nat.dvd_mul_right 256 (256^l));have h2:x%256^(l+1)/256=x/256%256^l:=by rw [Nat.pow_succ',Nat.mod_mul_right_div_self]
  simp only [dec,h1,h2];rw [dec_mod l]
theorem dec_app:∀(a x b y:Nat),dec a x++dec b y=dec (a+b) (x%256^a+256^a*y)
 |0,x,b,y=>by simp [dec,Nat.mod_one]
 |a+1,x,b,y=>by
  have e:a+1+b=(a+b)+1:=by omega
  have hp:256^(a+1)*y=256*(256^a*y):=by rw [Nat.pow_succ',Nat.mul_assoc]
  have h1:(x%256^(a+1)+256^(a+1)*y)%256=x%256:=by
   rw [hp,Nat.add_mul_mod_self_left];exact Nat.mod_mod_of_dvd x (Nat.pow_succ'▸Nat.dvd_mul_right 256 (256^a))
  have h2:(x%256^(a+1)+256^(a+1)*y)/256=x/256%256^a+256^a*y:=by
   rw [hp,Nat.add_mul_div_left _ _ (by omega),Nat.pow_succ',Nat.mod_mul_right_div_self]
  rw [e];simp only [dec,h1,h2,zaz];rw [dec_app a]
theorem enc_dec:∀(l x:Nat),enc (dec l x)=x%256^l
 |0,x=>by simp [dec,enc,Nat.mod_one]
 |l+1,x=>by
  simp only [dec,enc];rw [enc_dec l,Nat.pow_succ',Nat.mod_mul];simp
theorem seq_eq(l x m y:Nat):seq l x m y=decide (dec l x=dec m y):=by
 unfold seq;rw [aaz];by_cases h:l=m
 ·subst h;rw [if_pos (by simp)]
  have:(dec l x=dec l y)↔x%256^l=y%256^l:=by
   constructor
   ·intro h;rw [<-enc_dec,<-enc_dec,h]
   ·intro h;rw [<-dec_mod l x,<-dec_mod l y,h]
  rw [zbb,decide_eq_true_iff,this,aak];rfl
 ·rw [if_neg (by rw [aak];exact h)]
  symm
  rw [decide_eq_false_iff_not];intro e;exact h (by rw [<-aby l x,e,aby])
theorem bytes_lt(c:Nat)(h:c<256):(zaQ c).toNat=c:=by simp;omega
theorem kn_inj{k k':IntKind}(h:zai (kn k) (kn k')=true):k=k':=by cases k<;>cases k'<;>first|rfl|(revert h;decide)
theorem ures_eq(k:IntKind)(m:Nat):ures k m=if kh k<=m then Int.negSucc (km k-1-m)else Int.ofNat m:=by
 unfold ures;rw [aaz];simp only [aaj];rfl
theorem km_eq(k:IntKind):((km k:Nat):Int)=2^k.bits:=by cases k<;>rfl
theorem km_pos(k:IntKind):0<km k:=by cases k<;>simp [km]
theorem ajd(k:IntKind)(a:Nat):ures k (a%km k)=k.wrap (a:Int):=by
 rw [ures_eq];cases k<;>simp only [IntKind.wrap,IntKind.bits,IntKind.signed,km,kh,Int.ofNat_eq_natCast,Int.negSucc_eq]<;>simp<;>omega
theorem ajn(k:IntKind)(x:Int):k.wrap x%(km k:Int)=x%(km k:Int):=by
 cases k<;>simp only [IntKind.wrap,IntKind.bits,IntKind.signed,km]<;>simp<;>omega
theorem aje{k:IntKind}{x y:Int}(h:x%(km k:Int)=y%(km k:Int)):k.wrap x=k.wrap y:=by
 have e:(2:Int)^k.bits=(km k:Int):=(km_eq k).symm;unfold IntKind.wrap;rw [e,h]
theorem wrap_small{k:IntKind}{n:Nat}(h:n<kh k):k.wrap (n:Int)=(n:Int):=by
 cases k<;>simp only [IntKind.wrap,IntKind.bits,IntKind.signed,kh]at h⊢<;>simp<;>omega
theorem wrap_add(k:IntKind)(a c:Nat):k.wrap (((a+c)%km k:Nat):Int)=k.wrap (k.wrap a+k.wrap c):=by
 apply aje
 rw [Int.add_emod (k.wrap a),ajn,ajn,<-Int.add_emod];rw [Int.natCast_emod,Int.emod_emod_of_dvd _ (Int.dvd_refl _)];simp
theorem wrap_mul(k:IntKind)(a c:Nat):k.wrap (((a*c)%km k:Nat):Int)=k.wrap (k.wrap a*k.wrap c):=by
 apply aje
 rw [Int.mul_emod (k.wrap a),ajn,ajn,<-Int.mul_emod];rw [Int.natCast_emod,Int.emod_emod_of_dvd _ (Int.dvd_refl _)];simp
theorem wrap_mulN(k:IntKind)(a c:Nat):k.wrap (((a*c)%km k:Nat):Int)=k.wrap (k.wrap a*(c:Int)):=by
 apply aje
 rw [Int.mul_emod (k.wrap a),ajn,<-Int.mul_emod];rw [Int.natCast_emod,Int.emod_emod_of_dvd _ (Int.dvd_refl _)];simp
theorem wrap_sub(k:IntKind)(a c:Nat):k.wrap (((a+(km k-c%km k))%km k:Nat):Int)=k.wrap (k.wrap a-k.wrap c):=by
 apply aje
 rw [Int.sub_emod (k.wrap a),ajn,ajn,<-Int.sub_emod];have h:=Nat.mod_lt c (km_pos k);cases k<;>simp only [km]at h⊢<;>omega
theorem ilt_eq(k:IntKind)(a c:Nat):ilt k a c=decide (k.wrap a<k.wrap c):=by
 rw [zbb,decide_eq_true_iff];show zam ((a+ko k)%km k+1) ((c+ko k)%km k)=true↔_;rw [aaj];cases k<;>simp only [IntKind.wrap,IntKind.bits,IntKind.signed,km,ko]<;>simp<;>omega
theorem ieqN_eq(k:IntKind)(a c:Nat):ieqN k a c=decide (k.wrap a=k.wrap c):=by
 rw [zbb,decide_eq_true_iff];show zai (a%km k) (c%km k)=true↔_;rw [aak];cases k<;>simp only [IntKind.wrap,IntKind.bits,IntKind.signed,km]<;>simp<;>omega
theorem conI_eq(k k':IntKind)(a:Nat):k'.wrap (conI k k' a:Int)=k'.wrap (k.wrap a):=by
 show k'.wrap ((bi (zam (kh k) (a%km k)) ((a%km k+(km k'*km k-km k))%km k') ((a%km k)%km k'):Nat):Int)=_;rw [aaz];apply aje
 simp only [aaj];have h:=Nat.mod_lt a (km_pos k);have hw:k.wrap a=if kh k<=a%km k then((a%km k:Nat):Int)-km k else((a%km k:Nat):Int):=by
  rw [<-ajd,ures_eq];split
  ·rw [Int.negSucc_eq];omega
  ·rfl
 rw [hw];generalize a%km k=r at*;split
 ·have hp:km k<=km k'*km k:=Nat.le_mul_of_pos_left _ (km_pos k');have e:((r+(km k'*km k-km k):Nat):Int)=((r:Int)-km k)+(km k')*(km k:Int):=by rw [Int.natCast_add,Int.natCast_sub hp,Int.natCast_mul];omega
  rw [Int.natCast_emod,Int.emod_emod_of_dvd _ (Int.dvd_refl _),e,Int.add_mul_emod_self_left]
 ·rw [Int.natCast_emod,Int.emod_emod_of_dvd _ (Int.dvd_refl _)]
theorem ieq_eq(a b:Int):ieq a b=decide (a=b):=by
 rw [zbb,decide_eq_true_iff];cases a with
 |ofNat a=>cases b with
  |ofNat b=>show zai a b=true↔_;rw [aak];simp only [Int.ofNat_eq_natCast];omega
  |negSucc b=>show false=true↔_;simp only [Int.ofNat_eq_natCast,Int.negSucc_eq,Bool.false_eq_true,false_iff];omega
 |negSucc a=>cases b with
  |ofNat b=>show false=true↔_;simp only [Int.ofNat_eq_natCast,Int.negSucc_eq,Bool.false_eq_true,false_iff];omega
  |negSucc b=>show zai a b=true↔_;rw [aak];simp only [Int.negSucc_eq];omega
theorem resI_lt(k:IntKind)(n:Int):resI k n<km k:=by
 cases n with
 |ofNat a=>exact Nat.mod_lt a (km_pos k)
 |negSucc a=>
  show km k-1-a%km k<km k
  have:=km_pos k
  omega
theorem inot_eq(b:Bool):inot b= !b:=by cases b<;>rfl
abbrev En:=Nat->Nat×Nat
def Cp.re(E:En)(j:Nat):Cp->Nat
 |.k c=>c
 |.r off=>(E j).2-off
def SC.re(E:En):SC->Value
 |.b x=>.bool x
 |.i k n=>.int k (k.wrap (n:Int))
 |.s l x=>str (dec l x)
 |.np=>.pointer none
 |.ns=>.slice none 0 0
 |.nf=>.nilFunc
 |.ni=>.nilIface
 |.nm=>.map none
 |.p j off=>.pointer (some ⟨(E j).1,off,none⟩)
 |.g j off=>.pointer (some ⟨j,off,none⟩)
 |.sl j base n c=>.slice (some ⟨(E j).1,base,none⟩) n (c.re E j)
 |.fn f cs=>.func (.func f) #[] (cs.map fun j=>Value.pointer (some ⟨(E j).1,0,none⟩)).toArray
 |.y j=>.func (.yield (E j).1) #[] #[]
 |.m j=>.map (some (E j).1)
 |.z j base dd off=>.slice (some ⟨(E j).1,if(E j).2-off=0 then base else base+dd,none⟩) 0 ((E j).2-off)
def SA.re(E:En):SA->Value
 |.c x=>x.re E
 |.a l=>.agg (l.map (SC.re E)).toArray
def SV.re(E:En):SV->Value
 |.c x=>x.re E
 |.a l=>.agg (l.map (SC.re E)).toArray
 |.t l=>.tuple (l.map (SA.re E)).toArray
 |.u=>undef
def SC.ok(n:Nat):SC->Prop
 |.p j _=>j<n
 |.sl j _ _ _=>j<n
 |.fn _ cs=>∀j∈cs,j<n
 |.y j=>j<n
 |.m j=>j<n
 |.z j _ _ _=>j<n
 |_=>True
def SA.ok(n:Nat):SA->Prop
 |.c x=>x.ok n
 |.a l=>∀x∈l,x.ok n
def SV.ok(n:Nat):SV->Prop
 |.c x=>x.ok n
 |.a l=>∀x∈l,x.ok n
 |.t l=>∀x∈l,x.ok n
 |.u=>True
def Ag(n:Nat)(E E':En):Prop:=∀i,i<n->E' i=E i
theorem Ag.refl(n:Nat)(E:En):Ag n E E:=fun _ _=>rfl
theorem Ag.trans{n n':Nat}{E E' E'':En}(h:Ag n E E')(h':Ag n' E' E'')(hn:n<=n'):Ag n E E'':=fun i hi=>(h' i (by omega)).trans (h i hi)
theorem SC.ext{n:Nat}{E E':En}(h:Ag n E E'){x:SC}(hx:x.ok n):x.re E'=x.re E:=by
 cases x<;>simp only [SC.re,SC.ok]at hx⊢
 ·rw [h _ hx]
 ·rename_i i base m c;rw [h _ hx];cases c<;>simp [Cp.re,h _ hx]
 ·rename_i f cs;congr 2
  exact zbh fun i hi=>by rw [h i (hx i hi)]
 ·rw [h _ hx]
 ·rw [h _ hx]
 ·rw [h _ hx]
theorem scs_ext{n:Nat}{E E':En}(h:Ag n E E'){l:List SC}(hx:∀x∈l,x.ok n):l.map (SC.re E')=l.map (SC.re E):=zbh fun x hm=>SC.ext h (hx x hm)
theorem SA.ext{n:Nat}{E E':En}(h:Ag n E E'){x:SA}(hx:x.ok n):x.re E'=x.re E:=by
 cases x with
 |c x=>exact SC.ext h hx
 |a l=>simp only [SA.re];rw [scs_ext h hx]
theorem SV.ext{n:Nat}{E E':En}(h:Ag n E E'){x:SV}(hx:x.ok n):x.re E'=x.re E:=by
 cases x with
 |c x=>exact SC.ext h hx
 |a l=>simp only [SV.re];rw [scs_ext h hx]
 |t l=>simp only [SV.re];rw [zbh fun x hm=>SA.ext h (hx x hm)]
 |u=>rfl
theorem SC.up{n n':Nat}(h:n<=n'){x:SC}(hx:x.ok n):x.ok n':=by
 cases x<;>simp only [SC.ok]at hx⊢<;>first|omega|exact fun i hi=>zal (hx i hi) h
theorem SA.up{n n':Nat}(h:n<=n'){x:SA}(hx:x.ok n):x.ok n':=by
 cases x with
 |c x=>exact SC.up h hx
 |a l=>exact fun y hy=>SC.up h (hx y hy)
theorem SV.up{n n':Nat}(h:n<=n'){x:SV}(hx:x.ok n):x.ok n':=by
 cases x with
 |c x=>exact SC.up h hx
 |a l=>exact fun y hy=>SC.up h (hx y hy)
 |t l=>exact fun y hy=>SA.up h (hx y hy)
 |u=>trivial
theorem SC.one(E:En)(x:SC):(x.re E).oneCell'=true:=by cases x<;>rfl
theorem scs_one(E:En)(l:List SC):∀v∈l.map (SC.re E),v.oneCell'=true:=by
 intro v hv;obtain⟨x,_,rfl⟩:=List.mem_map.1 hv;exact SC.one E x
theorem SV.cells_r{E:En}{v:SV}{l:List SC}(h:v.cells=some l):(v.re E).cells=(l.map (SC.re E)).toArray:=by
 cases v with
 |c x=>
  cases h
  show(x.re E).cells=_
  cases x<;>rfl
 |a l'=>cases h;rfl
 |t l'=>cases h
 |u=>cases h
theorem SV.cells_ok{n:Nat}{v:SV}{l:List SC}(h:v.cells=some l)(hv:v.ok n):∀x∈l,x.ok n:=by
 cases v with
 |c x=>cases h;intro y hy;simp at hy;subst hy;exact hv
 |a l'=>cases h;exact hv
 |t l'=>cases h
 |u=>cases h
theorem SV.sa_r{E:En}{v:SV}{a:SA}(h:v.sa=some a):a.re E=v.re E:=by
 cases v<;>first|(cases h;rfl)|cases h
theorem SV.sa_ok{n:Nat}{v:SV}{a:SA}(h:v.sa=some a)(hv:v.ok n):a.ok n:=by
 cases v<;>first|(cases h;exact hv)|cases h
theorem SA.sv_r(E:En)(a:SA):a.sv.re E=a.re E:=by cases a<;>rfl
theorem SA.sv_ok{n:Nat}{a:SA}(h:a.ok n):a.sv.ok n:=by cases a<;>exact h
theorem cvc_ok{v:Value}{x:SC}(h:cvc v=some x)(E:En)(n:Nat):x.re E=v/\x.ok n:=by
 unfold cvc at h;split at h
 ·cases h;exact⟨rfl,trivial⟩
 ·obtain⟨h1,h⟩:=aac h;cases h
  rename_i k i;rw [ieq_eq,decide_eq_true_iff]at h1;refine⟨?_,trivial⟩
  simp only [SC.re];rw [<-ajd,Nat.mod_eq_of_lt (resI_lt k i),h1]
 ·cases h
  refine⟨?_,trivial⟩
  rename_i s;simp only [SC.re];rw [dec_enc];rfl
 ·cases h;exact⟨rfl,trivial⟩
 ·cases h;exact⟨rfl,trivial⟩
 ·cases h;exact⟨rfl,trivial⟩
 ·cases h;exact⟨rfl,trivial⟩
 ·cases h;exact⟨rfl,trivial⟩
 ·cases h
theorem cvs_ok:∀{vs:List Value} {l:List SC},cvs vs=some l->∀(E:En) (n:Nat),l.map (SC.re E)=vs/\∀x∈l,x.ok n
 |[],l,h,E,n=>by cases h;simp
 |v::vs,l,h,E,n=>by
  obtain⟨x,h1,h⟩:=aab h;obtain⟨xs,h2,h⟩:=aab h;cases h
  obtain⟨h3,h4⟩:=cvc_ok h1 E n;obtain⟨h5,h6⟩:=cvs_ok h2 E n;refine⟨by simp [h3,h5], ?_⟩
  intro y hy;rcases List.mem_cons.1 hy with rfl|hy
  ·exact h4
  ·exact h6 y hy
theorem ajb{v:Value}{x:SV}(h:cv v=some x)(E:En)(n:Nat):x.re E=v/\x.ok n:=by
 unfold cv at h;split at h
 ·rename_i cs;obtain⟨xs,h1,h⟩:=aab h;cases h
  obtain⟨h2,h3⟩:=cvs_ok h1 E n;exact⟨by simp only [SV.re];rw [h2],h3⟩
 ·obtain⟨y,h1,h⟩:=aab h;cases h
  exact cvc_ok h1 E n
theorem SC.v_r{x:SC}{v:Value}(h:x.v=some v)(E:En):x.re E=v:=by
 cases x with
 |i k a=>
  have e:Value.int k (ures k (a%km k))=v:=Option.some.inj h;rw [<-e,ajd];rfl
 |_=>first|(cases h;rfl)|cases h
theorem vcs_r:∀{l:List SC} {vs:List Value},vcs l=some vs->∀E:En,l.map (SC.re E)=vs
 |[],vs,h,E=>by cases h;rfl
 |x::l,vs,h,E=>by
  obtain⟨v,h1,h⟩:=aab h;obtain⟨ws,h2,h⟩:=aab h;cases h
  simp [SC.v_r h1 E,vcs_r h2 E]
theorem SV.v_r{x:SV}{v:Value}(h:x.v=some v)(E:En):x.re E=v:=by
 cases x with
 |c x=>exact SC.v_r h E
 |a l=>
  obtain⟨vs,h1,h⟩:=aab h;cases h
  simp only [SV.re];rw [vcs_r h1 E]
 |t l=>cases h
 |u=>cases h
noncomputable def tv(F:Tr SV)(t:Nat):SV:=(F.get t).getD .u
noncomputable def rF(E:En)(F:Tr SV):Nat->Value:=fun t=>(tv F t).re E
def Fok(n:Nat)(F:Tr SV):Prop:=∀t v,F.get t=some v->v.ok n
theorem tv_ok{n:Nat}{F:Tr SV}(h:Fok n F)(t:Nat):(tv F t).ok n:=by
 unfold tv;cases hg:F.get t with
 |none=>trivial
 |some v=>exact h t v hg
theorem tv_rec(F:Tr SV)(t:Nat):(zaj .u (fun v=>v) (F.get t):SV)=tv F t:=by
 unfold tv;cases F.get t<;>rfl
theorem rF_set(E:En)(F:Tr SV)(d:Nat)(v:SV):rF E (F.set d v)=Wk.upd (rF E F) d (v.re E):=by
 funext t
 unfold rF tv Wk.upd;rw [Tr.get_set];by_cases h:t=d
 ·subst h;simp
 ·rw [if_neg h]
  have:zai t d=false:=by
   cases hx:zai t d
   ·rfl
   ·exact absurd (zaU hx) h
  simp [this]
theorem Fok.set{n:Nat}{F:Tr SV}(h:Fok n F)(d:Nat){v:SV}(hv:v.ok n):Fok n (F.set d v):=by
 intro t x hx;rw [Tr.get_set]at hx;split at hx
 ·cases hx;exact hv
 ·exact h t x hx
theorem Fok.up{n n':Nat}(h:n<=n'){F:Tr SV}(hF:Fok n F):Fok n' F:=fun t v hv=>SV.up h (hF t v hv)
theorem rF_ext{n:Nat}{E E':En}(h:Ag n E E'){F:Tr SV}(hF:Fok n F):rF E' F=rF E F:=by
 funext t
 exact SV.ext h (tv_ok hF t)
def Mo.ok(md:Mo)(cap len size:Nat)(fz:Nat×Nat):Prop:=
 match md with
 |.ex=>size=len/\fz=(0,0)
 |.rw sz m=>len=m*sz/\m<=cap/\cap<=maxLen/\size=cap*sz/\fz=(0,0)
 |.bw=>len<=cap/\cap<=size/\size<=fz.1
 |.fb=>size=len/\size<=fz.1
theorem Mo.free{md:Mo}{cap len size:Nat}{fz:Nat×Nat}(h:md.ok cap len size fz):fz=(0,0)\/size<=fz.1:=by
 cases md with
 |ex=>exact .inl h.2
 |fb=>exact .inr h.2
 |rw sz m=>exact .inl h.2.2.2.2
 |bw=>exact .inr h.2.2
def cres(b cap t:Nat)(md:Mo)(xs:List Value):Res:=
 ⟨some b,fun o=>∃cur t' fz,o=some (.cells cur t' fz)/\(md=.bw\/t'=t)/\xs.length<=cur.size/\cur.toList.take xs.length=xs/\md.ok cap xs.length cur.size fz⟩
def lpres(b:Nat)(busy:Bool)(j k:Nat)(ps:List Nat)(asg body:Code)(F:Nat->Value):Res:=
 ⟨some b,fun o=>∃rc:Loop,rc.assign=asg/\rc.body=body/\rc.params=ps.toArray/\rc.tmps=(fr ⟨k,[],some none⟩ F).tmps/\
  (match busy with
  |false=>o=some (.loop {rc with state:=lst j,pending:=jmp j})
  |true=>∃pd,o=some (.loop {rc with state:=.busy,pending:=pd}))⟩
def mpres(b:Nat)(l:List (Value×Value)):Res:=⟨some b,fun o=>∃es clock,o=some (.map es clock)/\es.toList.map (fun e=>(e.key,e.val))=l⟩
noncomputable def resOf(E:En)(i:Nat):HB->Res
 |.cl t md xs=>cres (E i).1 (E i).2 t md (xs.map (SC.re E))
 |.it l x pos=>sit (E i).1 (dec l x) pos
 |.lp busy j k ps asg body F=>lpres (E i).1 busy j k ps asg body (rF E F)
 |.df=>dfr (E i).1
 |.gn=>⟨none,fun _=>True⟩
 |.mp es=>mpres (E i).1 (es.map fun p=>(p.1.re E,p.2.re E))
def HB.ok(n:Nat):HB->Prop
 |.cl _ _ xs=>∀x∈xs,x.ok n
 |.lp _ _ _ _ _ _ F=>Fok n F
 |.mp es=>∀p∈es,p.1.ok n/\p.2.ok n
 |_=>True
theorem HB.up{n n':Nat}(h:n<=n'){b:HB}(hb:b.ok n):b.ok n':=by
 cases b with
 |cl t md xs=>exact fun x hx=>SC.up h (hb x hx)
 |lp busy j k ps asg body F=>exact Fok.up h hb
 |mp es=>exact fun p hp=>⟨SC.up h (hb p hp).1,SC.up h (hb p hp).2⟩
 |it l x pos=>trivial
 |df=>trivial
 |gn=>trivial
theorem resOf_ext{n:Nat}{E E':En}(h:Ag n E E'){i:Nat}(hi:i<n){b:HB}(hb:b.ok n):resOf E' i b=resOf E i b:=by
 cases b with
 |cl t md xs=>simp only [resOf];rw [h i hi,scs_ext h hb]
 |lp busy j k ps asg body F=>simp only [resOf];rw [h i hi,rF_ext h hb]
 |mp es=>
  simp only [resOf];rw [h i hi];congr 1
  exact zbh fun p hp=>by rw [SC.ext h (hb p hp).1,SC.ext h (hb p hp).2]
 |it l x pos=>simp only [resOf];rw [h i hi]
 |df=>simp only [resOf];rw [h i hi]
 |gn=>rfl
noncomputable def hat(H:Hs)(i:Nat):HB:=(H.t.get i).getD .gn
noncomputable def afe(E:En)(H:Hs):List Res:=(List.range H.nx).map fun i=>resOf E i (hat H i)
structure Inv (w0:World) (E:En) (H:Hs) (w:World):Prop where
 hp:Hp w0 [] (afe E H) w
 lt:∀i b,H.t.get i=some b->i<H.nx
 ok:∀i b,H.t.get i=some b->b.ok H.nx
section
variable {w0 w : World} {E : En} {H : Hs}
theorem resLs_at{i:Nat}(hi:i<H.nx):(afe E H)[i]? =some (resOf E i (hat H i)):=by simp [afe,hi]
theorem Inv.at(h:Inv w0 E H w){i:Nat}{b:HB}(hb:H.t.get i=some b):(afe E H)[i]? =some (resOf E i b):=by
 rw [resLs_at (h.lt i b hb)];simp [hat,hb]
theorem Inv.hatok(h:Inv w0 E H w)(i:Nat):(hat H i).ok H.nx:=by
 unfold hat;cases hg:H.t.get i with
 |none=>trivial
 |some b=>exact h.ok i b hg
theorem hat_add(H:Hs)(b:HB)(i:Nat):hat (H.add b) i=if i=H.nx then b else hat H i:=by
 unfold hat Hs.add;simp only [Tr.get_set];split<;>rfl
theorem hat_upd(H:Hs)(k:Nat)(b:HB)(i:Nat):hat (H.upd k b) i=if i=k then b else hat H i:=by
 unfold hat Hs.upd;simp only [Tr.get_set];split<;>rfl
def eat(E:En)(n:Nat)(p:Nat×Nat):En:=fun i=>if i=n then p else E i
theorem ahf(E:En)(n:Nat)(p:Nat×Nat):Ag n E (eat E n p):=fun i hi=>by simp [eat];omega
theorem abu(E:En)(n:Nat)(p:Nat×Nat):eat E n p n=p:=by simp [eat]
theorem Inv.add(h:Inv w0 E H w){E':En}{w':World}{b:HB}(ha:Ag H.nx E E')(hb:b.ok (H.nx+1))(hp:Hp w0 [] (resOf E' H.nx b::afe E H) w'):Inv w0 E' (H.add b) w':=by
 have e:afe E' (H.add b)=afe E H++[resOf E' H.nx b]:=by
  show(List.range (H.nx+1)).map _=_
  rw [List.range_succ,zbc];congr 1
  ·refine zbh fun i hi=> ?_
   have hi:i<H.nx:=List.mem_range.1 hi;rw [hat_add,if_neg (by omega),resOf_ext ha hi (h.hatok i)]
  ·simp [hat_add]
 refine⟨?_,fun i x hx=> ?_,fun i x hx=> ?_⟩
 ·rw [e];refine hp.perm ?_;exact(List.perm_append_singleton _ _).symm
 ·show i<H.nx+1;have hx':(H.t.set H.nx b).get i=some x:=hx;rw [Tr.get_set]at hx';split at hx'
  ·omega
  ·have:=h.lt i x hx';omega
 ·show x.ok (H.nx+1);have hx':(H.t.set H.nx b).get i=some x:=hx;rw [Tr.get_set]at hx';split at hx'
  ·cases hx';exact hb
  ·exact HB.up (by omega) (h.ok i x hx')
theorem Inv.upd(h:Inv w0 E H w){w':World}{i:Nat}{b:HB}(hi:i<H.nx)(hb:b.ok H.nx)(hp:Hp w0 [] ((afe E H).set i (resOf E i b)) w'):Inv w0 E (H.upd i b) w':=by
 have e:afe E (H.upd i b)=(afe E H).set i (resOf E i b):=by
  apply List.ext_getElem?
  intro j;rw [List.getElem?_set]
  show((List.range H.nx).map _)[j]? =_
  by_cases hj:j<H.nx
  ·simp only [List.getElem?_map,List.getElem?_range hj,zaJ,hat_upd];by_cases hij:i=j
   ·subst hij;simp [afe,hj]
   ·rw [if_neg (fun e=>hij e.symm),if_neg hij,resLs_at hj]
  ·simp [afe,hj]
   intro e1;omega
 refine⟨by rw [e];exact hp,fun j x hx=> ?_,fun j x hx=> ?_⟩
 ·show j<H.nx;have hx':(H.t.set i b).get j=some x:=hx;rw [Tr.get_set]at hx';split at hx'
  ·omega
  ·exact h.lt j x hx'
 ·show x.ok H.nx;have hx':(H.t.set i b).get j=some x:=hx;rw [Tr.get_set]at hx';split at hx'
  ·cases hx';exact hb
  ·exact h.ok j x hx'
theorem Inv.cells(h:Inv w0 E H w){i t:Nat}{md:Mo}{xs:List SC}(hb:H.t.get i=some (.cl t md xs)):
  ∃cur t' fz,w.heap[(E i).1]? =some (.cells cur t' fz)/\(md=.bw\/t'=t)/\xs.length<=cur.size/\cur.toList.take xs.length=xs.map (SC.re E)/\md.ok (E i).2 xs.length cur.size fz:=by
 have h1:=(h.hp.res _ (List.mem_of_getElem? (h.at hb))).1;obtain⟨cur,t',fz,h2,h3,h4,h5,h6⟩:=h1;simp only [zax]at h4 h5 h6;exact⟨cur,t',fz,h2,h3,h4,h5,h6⟩
theorem Inv.cell(h:Inv w0 E H w){i t:Nat}{md:Mo}{xs:List SC}(hb:H.t.get i=some (.cl t md xs)){off:Nat}{x:SC}(hx:xs[off]? =some x):w.cell? ⟨(E i).1,off,none⟩=some (x.re E):=by
 obtain⟨cur,t',fz,h1,_,h2,h3,_⟩:=h.cells hb;have hlt:off<xs.length:=(List.getElem?_eq_some_iff.1 hx).1
 have:cur.toList[off]? =some (x.re E):=by
  have e:(cur.toList.take xs.length)[off]? =(xs.map (SC.re E))[off]? :=by rw [h3]
  rw [List.getElem?_take,if_pos hlt,List.getElem?_map,hx]at e;exact e
 simp only [World.cell?,h1];simpa using this
theorem Inv.blt(h:Inv w0 E H w){i:Nat}{b:HB}(hb:H.t.get i=some b){k:Nat}(hk:(resOf E i b).own=some k):k<w.heap.size/\w0.heap.size<=k:=by
 have:=(h.hp.res _ (List.mem_of_getElem? (h.at hb))).2 k hk
 simpa using this
def Gok(G:Nat->Option (List SC))(w:World):Prop:=∀g cs,G g=some cs->(∀x∈cs,x.ok 0)/\∃t f,∀E:En,w.heap[g]? =some (.cells (cs.map (SC.re E)).toArray t f)
theorem Gok.inv{G:Nat->Option (List SC)}(hG:Gok G w0)(h:Inv w0 E H w):Gok G w:=by
 intro g cs hg;obtain⟨h1,t,f,h2⟩:=hG g cs hg;refine⟨h1,t,f,fun E=> ?_⟩
 rw [h.hp.below g (Array.getElem?_eq_some_iff.1 (h2 E)).1 (by simp)];exact h2 E
end
open Go.Wk
open List renaming mem_of_mem_take -> zaL
open Nat renaming add -> zaN, ble -> zam, le_refl -> zab, le_trans -> zau, mul -> zbj
open Option renaming rec -> zaj
open UInt8 renaming ofNat -> zaQ
structure Sd (C:Cx) (m:M) (S:T) (n:Md) (w0:World) (E:En) (w:World):Prop where
 hn:n.n=m.n
 inv:Inv w0 E S.H w
 fok:Fok S.H.nx S.F
 gok:Gok C.G w0
section
variable {C : Cx} {m : M} {S : T} {n : Md} {w0 w : World} {E : En}
theorem aiz(h:Sd C m S n w0 E w){x:Operand}{v:SV}(hv:evO m S x=some v):evn n (rF E S.F) x=v.re E/\v.ok S.H.nx:=by
 cases x with
 |tmp t=>
  have hv':bi (zam (t+1) m.n) (some (oget (S.F.get t))) (some .u)=some v:=hv;have hr:evn n (rF E S.F) (.tmp t)=bif zam (t+1) m.n then rF E S.F t else undef:=by rw [<-h.hn];rfl
  rw [hr];cases hb:zam (t+1) m.n with
  |true=>
   rw [hb]at hv';have e:oget (S.F.get t)=v:=Option.some.inj hv';have e2:oget (S.F.get t)=tv S.F t:=tv_rec S.F t;rw [<-e,e2];exact⟨rfl,tv_ok h.fok t⟩
  |false=>
   rw [hb]at hv';have e:SV.u=v:=Option.some.inj hv';subst e;exact⟨rfl,trivial⟩
 |const c=>obtain⟨h1,h2⟩:=ajb (show cv c=some v from hv) E S.H.nx;exact⟨h1.symm,h2⟩
 |global g=>
  have e:SV.c (.g g 0)=v:=Option.some.inj hv;subst e;exact⟨rfl,trivial⟩
 |func f=>
  have e:SV.c (.fn f [])=v:=Option.some.inj hv;subst e;exact⟨rfl,fun i hi=>by cases hi⟩
theorem asC_ok{v:SV}{x:SC}(h:v.asC=some x):v=.c x:=by
 cases v<;>first|(cases h;rfl)|cases h
theorem asA_ok{v:SV}{l:List SC}(h:v.asA=some l):v=.a l:=by
 cases v<;>first|(cases h;rfl)|cases h
theorem asT_ok{v:SV}{l:List SA}(h:v.asT=some l):v=.t l:=by
 cases v<;>first|(cases h;rfl)|cases h
theorem asB_ok{x:SC}{b:Bool}(h:x.asB=some b):x=.b b:=by
 cases x<;>first|(cases h;rfl)|cases h
theorem asI_ok{x:SC}{q:IntKind×Nat}(h:x.asI=some q):x=.i q.1 q.2:=by
 cases x<;>first|(cases h;rfl)|cases h
theorem asS_ok{x:SC}{q:Nat×Nat}(h:x.asS=some q):x=.s q.1 q.2:=by
 cases x<;>first|(cases h;rfl)|cases h
theorem asP_ok{x:SC}{q:Nat×Nat}(h:x.asP=some q):x=.p q.1 q.2:=by
 cases x<;>first|(cases h;rfl)|cases h
theorem asN_ok{x:SC}{j:Nat}(h:x.asN=some j):∃q,∀E:En,x.re E=.int q (j:Int):=by
 obtain⟨q,h1,h2⟩:=aab h;obtain rfl:=asI_ok h1;obtain⟨k,a⟩:=q;obtain⟨h3,h4⟩:=aac (show bi (zam (a%km k+1) (kh k)) (some (a%km k)) none=some j from h2);cases h4
 rw [aaj]at h3;refine⟨k,fun E=> ?_⟩
 simp only [SC.re];rw [<-ajd,ures_eq,if_neg (by omega)];rfl
theorem iOf_ok{k:IntKind}{i:Nat}{v:SV}(h:iOf k i=some v):v=.c (.i k i)/\∀E:En,v.re E=.int k (i:Int):=by
 obtain⟨h1,h2⟩:=aac h;cases h2
 rw [aaj]at h1;exact⟨rfl,fun E=>by simp only [SV.re,SC.re];rw [wrap_small (by omega)]⟩
theorem hbC_ok{b:HB}{q:Nat×Mo×List SC}(h:b.asC=some q):b=.cl q.1 q.2.1 q.2.2:=by
 cases b<;>first|(cases h;rfl)|cases h
theorem ach(h:Sd C m S n w0 E w){x:Operand}{v:SC}(hv:evC m S x=some v):evn n (rF E S.F) x=v.re E/\v.ok S.H.nx:=by
 obtain⟨y,h1,h2⟩:=aab hv;obtain rfl:=asC_ok h2;exact aiz h h1
theorem evN_ok(h:Sd C m S n w0 E w){x:Operand}{j:Nat}(hv:evN m S x=some j):∃q,evn n (rF E S.F) x=.int q (j:Int):=by
 obtain⟨y,h1,h2⟩:=aab hv;obtain⟨q,hq⟩:=asN_ok h2;exact⟨q,by rw [(ach h h1).1,hq]⟩
theorem evV_ok(h:Sd C m S n w0 E w){x:Operand}{v:Value}(hv:evV m S x=some v):evn n (rF E S.F) x=v:=by
 obtain⟨y,h1,h2⟩:=aab hv;rw [(aiz h h1).1,SV.v_r h2 E]
def Yd(C:Cx)(S:T)(n:Md)(E:En)(w:World)(o:Oper)(v:SV):Prop:=
 (execOp (evn n (rF E S.F)) o).run C.P w=.ok (.value (v.re E)) w/\v.ok S.H.nx
theorem gen_ok(h:Sd C m S n w0 E w){o:Oper}{v:SV}(hv:gen C m S o=some v):Yd C S n E w o v:=by
 unfold gen at hv;cases hs:isSel o.op with
 |true=>rw [hs]at hv;cases hv
 |false=>
  rw [hs]at hv;have hv:=(aac hv)
  obtain⟨hall,hv⟩:=hv;obtain⟨nx,h1,hv⟩:=aab hv;obtain⟨r,h2,hv⟩:=aab hv;have hc:execOp (evn n (rF E S.F)) o=execOp (fun x=>(evV m S x).getD undef) o:=by
   refine execOp_congr o (fun cs b e=> ?_) fun x hx=> ?_
   ·rw [e]at hs;cases hs
   ·have h3:=List.all_eq_true.1 hall x (by simpa using hx);obtain⟨u,hu⟩:=Option.isSome_iff_exists.1 h3;rw [evV_ok h hu,hu];rfl
  have h3:=ajp h1 w;have hnx:nx=.value r:=by
   cases nx with
   |value u=>cases h2;rfl
   |_=>cases h2
  subst hnx;obtain⟨h4,h5⟩:=ajb hv E S.H.nx;exact⟨by rw [hc,h3,h4],h5⟩
theorem adc{t e:Nat}(h:tSl C t=some e):C.P.underlying t=some (.slice e):=by
 obtain⟨d,h1,h2⟩:=aab h;cases d<;>first|(cases h2;exact h1)|cases h2
theorem tAr_ok{t:Nat}{q:Nat×Nat}(h:tAr C t=some q):C.P.underlying t=some (.array q.1 q.2):=by
 obtain⟨d,h1,h2⟩:=aab h;cases d<;>first|(cases h2;exact h1)|cases h2
theorem tSt_ok{t:Nat}{l:List Field}(h:tSt C t=some l):C.P.underlying t=some (.struct l.toArray):=by
 obtain⟨d,h1,h2⟩:=aab h;cases d<;>first|(cases h2;simpa using h1)|cases h2
theorem tIn_ok{t:Nat}{k:IntKind}(h:tIn C t=some k):C.P.underlying t=some (.int k):=by
 obtain⟨d,h1,h2⟩:=aab h;cases d<;>first|(cases h2;exact h1)|cases h2
theorem ajo{t:Nat}{u:Unit}(h:tStr C t=some u):C.P.underlying t=some .string:=by
 obtain⟨d,h1,h2⟩:=aab h;cases d<;>first|exact h1|cases h2
theorem isU8_ok{t:Nat}{u:Unit}(h:isU8 C t=some u):C.P.underlying t=some (.int .u8):=by
 obtain⟨k,h1,h2⟩:=aab h;obtain⟨h3,_⟩:=aac h2
 have:=kn_inj h3
 subst this;exact tIn_ok h1
theorem afp{t z:Nat}(h:tSz C t=some z)(w:World):(sizeOf t).run C.P w=.ok z w:=ajp h w
theorem tAg_ok{t:Nat}{b:Bool}(h:tAg C t=some b)(w:World):(isAgg t).run C.P w=.ok b w:=ajp h w
theorem ajl{t:Nat}{z:List SC}(h:zeroC C t=some z)(E:En)(k:Nat)(w:World):∃v,(zeroValue t).run C.P w=.ok v w/\v.cells=(z.map (SC.re E)).toArray/\∀x∈z,x.ok k:=by
 obtain⟨v,h1,h2⟩:=aab h;obtain⟨h3,h4⟩:=cvs_ok h2 E k;exact⟨v,ajp h1 w,by rw [h3],h4⟩
theorem fieldOf_ok{t f:Nat}{fd:Field}(h:fieldOf C t f=some fd):∃l:List Field,C.P.underlying t=some (.struct l.toArray)/\l[f]? =some fd:=by
 obtain⟨l,h1,h2⟩:=aab h;rw [lget_eq]at h2;exact⟨l,tSt_ok h1,h2⟩
theorem partOf_ok{t:Nat}{xs:List SC}{off:Nat}{v:SV}(h:partOf C t xs off=some v):
  (tAg C t=some false/\∃x,xs[off]? =some x/\v=.c x)\/(tAg C t=some true/\∃z,tSz C t=some z/\off+z<=xs.length/\v=.a ((xs.drop off).take z)):=by
 obtain⟨a,h1,h⟩:=aab h;cases a with
 |false=>
  obtain⟨x,h2,h⟩:=aab (show ob (lget xs off) (fun x=>some (SV.c x))=some v from h);cases h
  rw [lget_eq]at h2;exact .inl ⟨h1,x,h2,rfl⟩
 |true=>
  obtain⟨z,h2,h⟩:=aab (show ob (tSz C t) (fun n=>bi (zam (zaN off n) (aid xs)) (some (SV.a (ltake (ldrop xs off) n))) none)=some v from h);obtain⟨h3,h⟩:=aac h;cases h
  rw [aaj,abm]at h3;rw [aia,ldrop_eq];exact .inr ⟨h1,z,h2,h3,rfl⟩
theorem partOf_okk{t:Nat}{xs:List SC}{off k:Nat}{v:SV}(h:partOf C t xs off=some v)(hx:∀x∈xs,x.ok k):v.ok k:=by
 rcases partOf_ok h with⟨_,x,h1,rfl⟩|⟨_,z,_,_,rfl⟩
 ·exact hx x (List.mem_of_getElem? h1)
 ·exact fun x hm=>hx x (List.mem_of_mem_drop (zaL hm))
theorem load_run{t:Nat}{xs:List SC}{b off:Nat}{v:SV}(h:partOf C t xs off=some v)(hc:∀j x,xs[j]? =some x->w.cell? ⟨b,j,none⟩=some (x.re E)):
  (loadVar t ⟨b,off,none⟩).run C.P w=.ok (v.re E) w:=by
 rcases partOf_ok h with⟨h1,x,h2,rfl⟩|⟨h1,z,h2,h3,rfl⟩
 ·have:=hc off x h2
  simp [loadVar,tAg_ok h1 w,this,SV.re]
 ·have hl:(loadCells ⟨b,off,none⟩ z).run C.P w=.ok (((xs.drop off).take z).map (SC.re E)).toArray w:=by
   have hz:(((xs.drop off).take z).map (SC.re E)).length=z:=by simp;omega
   conv=>lhs;rw [<-hz]
   refine run_loadCells_list w ⟨b,off,none⟩ _ fun j u hj=> ?_
   rw [abb];rw [List.getElem?_map]at hj;obtain⟨x,hx,rfl⟩:=Option.map_eq_some_iff.1 hj;rw [List.getElem?_take]at hx;split at hx
   ·rw [List.getElem?_drop]at hx;exact hc _ x hx
   ·cases hx
  simp [loadVar,tAg_ok h1 w,afp h2 w,hl,SV.re]
theorem part_run{t:Nat}{xs:List SC}{off:Nat}{v:SV}(h:partOf C t xs off=some v):(part t (xs.map (SC.re E)).toArray off).run C.P w=.ok (v.re E) w:=by
 rcases partOf_ok h with⟨h1,x,h2,rfl⟩|⟨h1,z,h2,h3,rfl⟩
 ·simp [part,tAg_ok h1 w,h2,SV.re]
 ·have e:(xs.map (SC.re E)).toArray.extract off (off+z)=(((xs.drop off).take z).map (SC.re E)).toArray:=by
   simp only [List.extract_toArray,List.extract_eq_take_drop,Nat.add_sub_cancel_left];rw [List.map_take,List.map_drop]
  simp only [part,Sem.run_bind,tAg_ok h1 w,Result.andThen_ok,if_true,afp h2 w,Sem.run_pure,e,SV.re]
theorem cellsOf_ok{i:Nat}{xs:List SC}(h:cellsOf S i=some xs):∃t md,S.H.t.get i=some (.cl t md xs):=by
 obtain⟨b,h1,h⟩:=aab h;obtain⟨q,h2,h⟩:=aab h;cases h
 rw [hbC_ok h2]at h1;exact⟨_,_,h1⟩
theorem cellsOf_okk(h:Sd C m S n w0 E w){i:Nat}{xs:List SC}(hx:cellsOf S i=some xs):(∀j x,xs[j]? =some x->w.cell? ⟨(E i).1,j,none⟩=some (x.re E))/\∀x∈xs,x.ok S.H.nx:=by
 obtain⟨t,md,h1⟩:=cellsOf_ok hx;exact⟨fun j x hj=>h.inv.cell h1 hj,h.inv.ok i _ h1⟩
theorem glob_ok(h:Sd C m S n w0 E w){g:Nat}{xs:List SC}(hx:C.G g=some xs):(∀j x,xs[j]? =some x->w.cell? ⟨g,j,none⟩=some (x.re E))/\∀x∈xs,x.ok S.H.nx:=by
 obtain⟨h1,t,f,h2⟩:=(h.gok.inv h.inv) g xs hx;refine⟨fun j x hj=> ?_,fun x hm=>SC.up (Nat.zero_le _) (h1 x hm)⟩
 simp only [World.cell?,h2 E];simp [hj]
theorem loadC_ok(h:Sd C m S n w0 E w){t:Nat}{x:SC}{v:SV}(hv:loadC C S t x=some v):∃A:Addr,x.re E=.pointer (some A)/\(loadVar t A).run C.P w=.ok (v.re E) w/\v.ok S.H.nx:=by
 cases x with
 |p i off=>
  obtain⟨xs,h1,h2⟩:=aab (show ob (cellsOf S i) (fun xs=>partOf C t xs off)=some v from hv);obtain⟨h3,h4⟩:=cellsOf_okk h h1;exact⟨_,rfl,load_run h2 h3,partOf_okk h2 h4⟩
 |g g off=>
  obtain⟨xs,h1,h2⟩:=aab (show ob (C.G g) (fun xs=>partOf C t xs off)=some v from hv);obtain⟨h3,h4⟩:=glob_ok h h1;exact⟨_,rfl,load_run h2 h3,partOf_okk h2 h4⟩
 |_=>cases hv
section
variable {d : Option Nat} {ty : TypeId} {pos : String} {after : Array Edge} {gd : Option (Nat × Bool)}
theorem yd_load(h:Sd C m S n w0 E w){t:Nat}{x:Operand}{v:SV}(hv:opLoad C m S t x=some v):Yd C S n E w ⟨d,.load t x,ty,pos,after,gd⟩ v:=by
 obtain⟨y,h1,h2⟩:=aab hv;obtain⟨A,h3,h4,h5⟩:=loadC_ok h h2;have hx:=(ach h h1).1;rw [h3]at hx;exact⟨by simp [execOp,hx,Instr.loadAt,Instr.sureAddr,h4],h5⟩
theorem yd_field(h:Sd C m S n w0 E w){t f:Nat}{x:Operand}{v:SV}(hv:opField C m S t x f=some v):Yd C S n E w ⟨d,.field t x f,ty,pos,after,gd⟩ v:=by
 obtain⟨fd,h1,hv⟩:=aab hv;obtain⟨y,h2,hv⟩:=aab hv;obtain⟨xs,h3,hv⟩:=aab hv;obtain rfl:=asA_ok h3;obtain⟨l,h4,h5⟩:=fieldOf_ok h1;obtain⟨hx,hok⟩:=aiz h h2;have hx':evn n (rF E S.F) x=.agg (xs.map (SC.re E)).toArray:=hx;have hp:=part_run (w:=w) (E:=E) hv;refine⟨?_,partOf_okk hv hok⟩
 simp [execOp,hx',Instr.field,run_underlying h4,h5,asAgg]
 rw [hp];rfl
theorem fieldAt_ok{t f dd:Nat}(h:fieldAt C t f=some dd)(A:Addr)(w:World):(Instr.fieldAt t (.pointer (some A)) f).run C.P w=.ok (.pointer (some (A.add dd))) w:=by
 obtain⟨fd,h1,h⟩:=aab h;obtain⟨z,h2,h⟩:=aab h;have hz:z≠0/\dd=fd.offset:=by
  rw [aaz]at h;split at h
  ·cases h
  ·rename_i h3;cases h
   exact⟨fun e=>h3 (by subst e;rfl),rfl⟩
 obtain⟨l,h4,h5⟩:=fieldOf_ok h1;obtain⟨hz,rfl⟩:=hz;simp [Instr.fieldAt,run_underlying h4,h5,Instr.sureAddr,fieldPlace,afp h2 w,hz]
theorem padd_ok{dd k:Nat}{x:SC}{v:SV}(hv:padd dd x=some v)(E:En)(hx:x.ok k):∃A:Addr,x.re E=.pointer (some A)/\v.re E=.pointer (some (A.add dd))/\v.ok k:=by
 cases x with
 |p i off=>
  have e:SV.c (.p i (off+dd))=v:=Option.some.inj hv;subst e;exact⟨_,rfl,by simp only [SV.re,SC.re];rw [abb],hx⟩
 |g i off=>
  have e:SV.c (.g i (off+dd))=v:=Option.some.inj hv;subst e;exact⟨_,rfl,by simp only [SV.re,SC.re];rw [abb],hx⟩
 |_=>cases hv
theorem yd_fieldAddr(h:Sd C m S n w0 E w){t f:Nat}{x:Operand}{v:SV}(hv:opFieldAddr C m S t x f=some v):Yd C S n E w ⟨d,.fieldAddr t x f,ty,pos,after,gd⟩ v:=by
 obtain⟨dd,h1,hv⟩:=aab hv;obtain⟨y,h2,hv⟩:=aab hv;obtain⟨hx,hok⟩:=ach h h2;obtain⟨A,h3,h4,h5⟩:=padd_ok hv E hok;rw [h3]at hx;exact⟨by simp [execOp,hx,fieldAt_ok h1 A w,h4],h5⟩
theorem yd_indexAddr(h:Sd C m S n w0 E w){t:Nat}{x ix:Operand}{v:SV}(hv:opIndexAddr C m S t x ix=some v):Yd C S n E w ⟨d,.indexAddr t x ix,ty,pos,after,gd⟩ v:=by
 obtain⟨j,h1,hv⟩:=aab hv;obtain⟨y,h2,hv⟩:=aab hv;obtain⟨q,hj⟩:=evN_ok h h1;obtain⟨hx,hok⟩:=ach h h2;cases ht:tSl C t with
 |some e=>
  rw [ht]at hv;obtain⟨sz,h3,hv⟩:=aab (show ob (tSz C e) (fun sz=>slAdd j sz y)=some v from hv);cases y with
  |sl i base k c=>
   obtain⟨h4,hv⟩:=aac (show bi (zam (j+1) k) (some (SV.c (.p i (base+j*sz)))) none=some v from hv);cases hv
   rw [aaj]at h4;have h5:=adc ht;have hx':evn n (rF E S.F) x=.slice (some ⟨(E i).1,base,none⟩) k (c.re E i):=hx;refine⟨?_,hok⟩
   have hlt:((j:Int)<(k:Int)):=by omega
   simp [execOp,hx',hj,Instr.indexAt,asIntOf,run_underlying h5,afp h3 w,hlt,SV.re,SC.re,abb]
   intro hc;omega
  |_=>cases hv
 |none=>
  rw [ht]at hv;obtain⟨qq,h3,hv⟩:=aab hv;obtain⟨sz,h4,hv⟩:=aab hv;obtain⟨h5,hv⟩:=aac hv;rw [aaj]at h5;obtain⟨A,h6,h7,h8⟩:=padd_ok hv E hok;rw [h6]at hx;have h9:=tAr_ok h3;refine⟨?_,h8⟩
  have hlt:((j:Int)<(qq.1:Int)):=by omega
  simp [execOp,hx,hj,Instr.indexAt,Instr.sureAddr,asIntOf,run_underlying h9,afp h4 w,hlt,h7]
  intro hc;exact absurd h5 (by omega)
theorem str_at{l x j:Nat}(h:j<l):(⟨(dec l x).toArray⟩:ByteArray)[j]? =some (zaQ (x/256^j%256)):=by
 have h1:=dec_get j l x h;have hs:j<(⟨(dec l x).toArray⟩:ByteArray).size:=by show j<(dec l x).length;rw [aby];exact h
 rw [getElem?_pos _ j hs];have h2:(dec l x)[j]'(by rw [aby];exact h)=zaQ (x/256^j%256):=by
  rw [List.getElem?_eq_getElem (by rw [aby];exact h)]at h1;exact Option.some.inj h1
 rw [<-h2];rfl
theorem yd_index(h:Sd C m S n w0 E w){t:Nat}{x ix:Operand}{v:SV}(hv:opIndex C m S t x ix=some v):Yd C S n E w ⟨d,.index t x ix,ty,pos,after,gd⟩ v:=by
 obtain⟨j,h1,hv⟩:=aab hv;obtain⟨y,h2,hv⟩:=aab hv;obtain⟨q,hj⟩:=evN_ok h h1;obtain⟨hx,hok⟩:=aiz h h2;cases hc:y.asC with
 |some z=>
  rw [hc]at hv;obtain⟨p,h3,hv⟩:=aab hv;obtain⟨u,h4,hv⟩:=aab hv;obtain⟨h5,hv⟩:=aac hv;cases hv
  rw [aaj]at h5;obtain rfl:=asC_ok hc;obtain rfl:=asS_ok h3;have hx':evn n (rF E S.F) x=.string ⟨(dec p.1 p.2).toArray⟩:=hx;refine⟨?_,trivial⟩
  have h6:=str_at (x:=p.2) (show j<p.1 by omega);have h7:(zaQ (p.2/256^j%256)).toNat=sbyte p.2 j:=bytes_lt _ (Nat.mod_lt _ (by decide));have h8:IntKind.u8.wrap (sbyte p.2 j:Int)=(sbyte p.2 j:Int):=wrap_small (show sbyte p.2 j<256 from Nat.mod_lt _ (by decide));simp [execOp,hx',hj,Instr.index,asIntOf,run_underlying (ajo h4),h6,SV.re,SC.re,h8]
  rw [<-h7];simp
 |none=>
  rw [hc]at hv;obtain⟨xs,h3,hv⟩:=aab hv;obtain⟨qq,h4,hv⟩:=aab hv;obtain⟨sz,h5,hv⟩:=aab hv;obtain⟨h6,hv7⟩:=aac hv;rw [aaj]at h6;have hp:=part_run (w:=w) (E:=E) hv7;obtain rfl:=asA_ok h3;have hx':evn n (rF E S.F) x=.agg (xs.map (SC.re E)).toArray:=hx;refine⟨?_,partOf_okk hv7 hok⟩
  have hlt:((j:Int)<(qq.1:Int)):=by omega
  simp [execOp,hx',hj,Instr.index,asIntOf,run_underlying (tAr_ok h4),afp h5 w,hlt]
  rw [if_pos (show j<qq.1 from h6),show j*sz=zbj j sz from rfl,hp];rfl
theorem ahg{x:Value}{q:IntKind}{j y:Nat}(hx:x=.int q (j:Int))(hj:j<=y)(code:BoundsCode)(P:Program)(w:World):(Instr.sliceBound x y code).run P w=.ok j w:=by
 subst hx
 have:((j:Int)<=(y:Int)):=by omega
 simp [Instr.sliceBound,asIntOf,this]
theorem evND_ok(h:Sd C m S n w0 E w){x:Option Operand}{dd a:Nat}(hv:evND m S x dd=some a):(x=none/\a=dd)\/∃y q,x=some y/\evn n (rF E S.F) y=.int q (a:Int):=by
 cases x with
 |none=>left;exact⟨rfl,(Option.some.inj hv).symm⟩
 |some y=>
  right
  obtain⟨q,hq⟩:=evN_ok h (show evN m S y=some a from hv);exact⟨y,q,rfl,hq⟩
theorem aio(h:Sd C m S n w0 E w){lo hi:Option Operand}{len cap a b:Nat}(ha:evND m S lo 0=some a)(hb:evND m S hi len=some b)(hab:a<=b)(hbc:b<=cap)(isS:Bool)(P:Program):
  (Instr.sliceBounds isS len cap (lo.map (evn n (rF E S.F))) (hi.map (evn n (rF E S.F))) none).run P w=.ok (a,b,cap) w:=by
 rcases evND_ok h ha with⟨rfl,rfl⟩|⟨y,q,rfl,hy⟩
 ·rcases evND_ok h hb with⟨rfl,rfl⟩|⟨z,q',rfl,hz⟩
  ·simp [Instr.sliceBounds]
  ·simp [Instr.sliceBounds,ahg hz hbc]
 ·rcases evND_ok h hb with⟨rfl,rfl⟩|⟨z,q',rfl,hz⟩
  ·simp [Instr.sliceBounds,ahg hy hab]
  ·simp [Instr.sliceBounds,ahg hz hbc,ahg hy hab]
theorem bounds3_run(h:Sd C m S n w0 E w){lo hi:Option Operand}{mo:Operand}{len cap a b mm:Nat}(ha:evND m S lo 0=some a)(hb:evND m S hi len=some b)(hh:hi.isSome=true)(hm:evN m S mo=some mm)(hab:a<=b)(hbc:b<=mm)(hmc:mm<=cap)(isS:Bool)(P:Program):
  (Instr.sliceBounds isS len cap (lo.map (evn n (rF E S.F))) (hi.map (evn n (rF E S.F))) (some (evn n (rF E S.F) mo))).run P w=.ok (a,b,mm) w:=by
 obtain⟨q0,h0⟩:=evN_ok h hm;rcases evND_ok h ha with⟨rfl,rfl⟩|⟨y,q,rfl,hy⟩
 ·rcases evND_ok h hb with⟨rfl,rfl⟩|⟨z,q',rfl,hz⟩
  ·cases hh
  ·simp [Instr.sliceBounds,ahg hz hbc,ahg h0 hmc]
 ·rcases evND_ok h hb with⟨rfl,rfl⟩|⟨z,q',rfl,hz⟩
  ·cases hh
  ·simp [Instr.sliceBounds,ahg hz hbc,ahg hy hab,ahg h0 hmc]
theorem cut_str{l x i j:Nat}(hi:i<=j)(hj:j<=l):(⟨(dec l x).toArray⟩:ByteArray).extract i j=⟨(dec (j-i) (x/256^i%256^(j-i))).toArray⟩:=by
 apply ByteArray.ext
 rw [ByteArray.data_extract];simp only [List.extract_toArray,List.extract_eq_take_drop];rw [dec_drop,dec_take _ _ _ (by omega),dec_mod]
theorem cutK_ok{i base cc sz a b mm k:Nat}{v:SV}(hv:cutK i base cc sz a b mm=some v)(hi:i<k):a<=b/\b<=mm/\mm<=cc/\v.ok k/\
  ∀E:En,v.re E=.slice (if mm=a then some ⟨(E i).1,base,none⟩else some ((⟨(E i).1,base,none⟩:Addr).add (a*sz))) (b-a) (mm-a):=by
 obtain⟨h1,hv⟩:=aac hv;obtain⟨h2,hv⟩:=aac hv;obtain⟨h3,hv⟩:=aac hv;cases hv
 rw [aaj]at h1 h2 h3;refine⟨h1,h2,h3,hi,fun E=> ?_⟩
 simp only [SV.re,SC.re,Cp.re,aaz,aak,abb];split<;>rfl
theorem room_ok(h:Sd C m S n w0 E w){i k:Nat}(hv:room S i k=true):k<=(E i).2:=by
 unfold room at hv;cases hb:S.H.t.get i with
 |none=>rw [hb]at hv;cases hv
 |some b=>
  rw [hb]at hv;cases hq:b.asC with
  |none=>
   have hv':(zaj false (fun q=>Mo.rec (motive:=fun _=>Bool) false (fun _ mm=>zam k mm) (zam k (aid q.2.2)) false q.2.1) b.asC:Bool)=true:=hv;rw [hq]at hv';cases hv'
  |some q=>
   have hv':(zaj false (fun q=>Mo.rec (motive:=fun _=>Bool) false (fun _ mm=>zam k mm) (zam k (aid q.2.2)) false q.2.1) b.asC:Bool)=true:=hv;rw [hq]at hv';obtain⟨t,md,xs⟩:=q;have hb':=hbC_ok hq;subst hb';obtain⟨cur,t',fz,_,_,h3,_,h5⟩:=h.inv.cells hb;cases md with
   |ex=>cases hv'
   |fb=>cases hv'
   |rw sz mm=>
    have h6:zam k mm=true:=hv';rw [aaj]at h6;exact zau h6 h5.2.1
   |bw=>
    have h6:zam k (aid xs)=true:=hv';rw [aaj,abm]at h6;exact zau h6 h5.1
theorem yd_sliceR(h:Sd C m S n w0 E w){rm:Nat->Nat->Bool}(hrm:∀i k,rm i k=true->k<=(E i).2){t:Nat}{x:Operand}{lo hi mx:Option Operand}{v:SV}(hv:opSliceR C m S rm t x lo hi mx=some v):Yd C S n E w ⟨d,.slice t x lo hi mx,ty,pos,after,gd⟩ v:=by
 obtain⟨y,h1,hv⟩:=aab hv;obtain⟨hx,hok⟩:=ach h h1;cases y with
 |s l q=>
  obtain⟨u,h2,hv⟩:=aab (show cutS C m S t lo hi mx l q=some v from hv);obtain⟨h3,hv⟩:=aac hv;obtain⟨a,h4,hv⟩:=aab hv;obtain⟨b,h5,hv⟩:=aab hv;obtain⟨h6,hv⟩:=aac hv;obtain⟨h7,hv⟩:=aac hv;cases hv
  rw [aaj]at h6 h7;obtain rfl:mx=none:=by simpa using h3
  have hx':evn n (rF E S.F) x=.string ⟨(dec l q).toArray⟩:=hx;have hsz:(⟨(dec l q).toArray⟩:ByteArray).size=l:=aby l q;refine⟨?_,trivial⟩
  have hb:=aio h h4 (by simpa using h5) h6 h7 false C.P;simp [execOp,hx',Instr.sliceAt,Instr.slice,run_underlying (ajo h2),hsz,hb,cut_str h6 h7,SV.re,SC.re,scut,str]
  rfl
 |ns=>
  obtain⟨u,h2,hv⟩:=aab (show cutN C m S t lo hi mx=some v from hv);obtain⟨sz,h8,hv⟩:=aab hv;obtain⟨h3,hv⟩:=aac hv;obtain⟨a,h4,hv⟩:=aab hv;obtain⟨b,h5,hv⟩:=aab hv;obtain⟨h6,hv⟩:=aac hv;cases hv
  rw [aak]at h6;have ha:a=0:=by have:a+b=0:=h6;omega
  have hb0:b=0:=by have:a+b=0:=h6;omega
  subst ha;subst hb0;obtain rfl:mx=none:=by simpa using h3
  have hx':evn n (rF E S.F) x=.slice none 0 0:=hx;refine⟨?_,trivial⟩
  have hb:=aio h h4 h5 (zab _) (zab 0) true C.P;simp [execOp,hx',Instr.sliceAt,Instr.slice,run_underlying (adc h2),hb,afp h8 w,SV.re,SC.re]
 |p i off=>
  obtain⟨q,h2,hv⟩:=aab (show cutA C m S t lo hi mx i off=some v from hv);obtain⟨sz,h3,hv⟩:=aab hv;obtain⟨h4,hv⟩:=aac hv;obtain⟨a,h5,hv⟩:=aab hv;obtain⟨b,h6,hv⟩:=aab hv;obtain⟨h7,h8,_,h9,h10⟩:=cutK_ok (k:=S.H.nx) hv hok;obtain rfl:mx=none:=by simpa using h4
  have hx':evn n (rF E S.F) x=.pointer (some ⟨(E i).1,off,none⟩):=hx;refine⟨?_,h9⟩
  have hb:=aio h h5 h6 h7 h8 false C.P;rw [h10 E];simp [execOp,hx',Instr.sliceAt,Instr.sureAddr,run_underlying (tAr_ok h2),hb,afp h3 w]
  split<;>rfl
 |sl i base k c=>
  obtain⟨e,h2,hv⟩:=aab (show cutL C m S rm t lo hi mx i base k c=some v from hv);obtain⟨sz,h3,hv⟩:=aab hv;obtain⟨a,h4,hv⟩:=aab hv;obtain⟨b,h5,hv⟩:=aab hv;have hx':evn n (rF E S.F) x=.slice (some ⟨(E i).1,base,none⟩) k (c.re E i):=hx;cases mx with
  |none=>
   cases c with
   |k cc=>
    obtain⟨h6,h7,_,h8,h9⟩:=cutK_ok (k:=S.H.nx) (show cutK i base cc sz a b cc=some v from hv) hok;refine⟨?_,h8⟩
    have hb:=aio h h4 h5 h6 h7 true C.P;rw [h9 E];simp [execOp,hx',Instr.sliceAt,Instr.slice,run_underlying (adc h2),Cp.re,hb,afp h3 w]
   |r off=>
    obtain⟨h0,hv⟩:=aac (show cutR rm i base k sz off a b=some v from hv);have hcap:off+k<=(E i).2:=hrm _ _ h0;obtain⟨h6,hv⟩:=aac hv;obtain⟨h7,hv8⟩:=aac hv;rw [aaj]at h6 h7;have hb:=aio (cap:=(E i).2-off) h h4 h5 h6 (by omega) true C.P;clear hv;rw [aaz]at hv8;split at hv8
    ·rename_i ha;rw [aak]at ha;cases hv8
     subst ha;refine⟨?_,hok⟩
     simp [execOp,hx',Instr.sliceAt,Instr.slice,run_underlying (adc h2),Cp.re,hb,afp h3 w,SV.re,SC.re,Addr.add]
    ·rename_i ha;rw [aak]at ha;rw [aaz]at hv8;split at hv8
     rotate_left
     ·rename_i h8;rw [aaj]at h8;cases hv8
      have e1:b-a=0:=by have:¬a+1<=k:=h8;omega
      have e2:(E i).2-off-a=(E i).2-(off+a):=by omega
      refine⟨?_,hok⟩
      have eA:zaN off a=off+a:=rfl;have eM:zbj a sz=a*sz:=rfl;by_cases hz:(E i).2-off=a
      ·have e3:(E i).2-(off+a)=0:=by omega
       rw [hz]at hb;simp [execOp,hx',Instr.sliceAt,Instr.slice,run_underlying (adc h2),Cp.re,hb,afp h3 w,SV.re,SC.re,hz,e1,e3,eA,eM]
      ·have e3:¬(E i).2-(off+a)=0:=by omega
       simp [execOp,hx',Instr.sliceAt,Instr.slice,run_underlying (adc h2),Cp.re,hb,afp h3 w,SV.re,SC.re,hz,e1,e2,e3,eA,eM,abb]
     rename_i h8;rw [aaj]at h8;cases hv8
     refine⟨?_,hok⟩
     have hne:¬(E i).2-off=a:=by omega
     simp [execOp,hx',Instr.sliceAt,Instr.slice,run_underlying (adc h2),Cp.re,hb,afp h3 w,SV.re,SC.re,hne,abb,Nat.sub_sub]
  |some mo=>
   obtain⟨h6,hv⟩:=aac hv;obtain⟨mm,h7,hv⟩:=aab hv;obtain⟨cc,h13,hv⟩:=aab hv;obtain⟨h8,h9,h10,h11,h12⟩:=cutK_ok (k:=S.H.nx) hv hok;have hcc:cc<=c.re E i:=by
    cases c with
    |k c'=>cases h13;exact zab _
    |r off=>
     obtain⟨h0,h13⟩:=aac (show bi (rm i (off+k)) (some k) none=some cc from h13);cases h13
     have hcap:off+k<=(E i).2:=hrm _ _ h0;show k<=(E i).2-off;omega
   refine⟨?_,h11⟩
   have hb:=bounds3_run (cap:=c.re E i) h h4 h5 h6 h7 h8 h9 (by omega) true C.P;rw [h12 E];simp [execOp,hx',Instr.sliceAt,Instr.slice,run_underlying (adc h2),hb,afp h3 w]
 |z i base dd off=>
  obtain⟨e,h2,hv⟩:=aab (show cutZ C m S t lo hi mx i base dd off=some v from hv);obtain⟨sz,h3,hv⟩:=aab hv;obtain⟨h4,hv⟩:=aac hv;obtain⟨a,h5,hv⟩:=aab hv;obtain⟨b,h6,hv⟩:=aab hv;obtain⟨h7,hv⟩:=aac hv;cases hv
  rw [aak]at h7;have ha:a=0:=by have:a+b=0:=h7;omega
  have hb0:b=0:=by have:a+b=0:=h7;omega
  subst ha;subst hb0;obtain rfl:mx=none:=by simpa using h4
  have hx':evn n (rF E S.F) x=.slice (some ⟨(E i).1,if(E i).2-off=0 then base else base+dd,none⟩) 0 ((E i).2-off):=hx;refine⟨?_,hok⟩
  have hb:=aio (cap:=(E i).2-off) h h5 h6 (zab _) (Nat.zero_le _) true C.P;by_cases hz:(E i).2-off=0
  ·rw [hz]at hb;simp [execOp,hx',Instr.sliceAt,Instr.slice,run_underlying (adc h2),hb,afp h3 w,SV.re,SC.re,hz,Addr.add]
  ·simp [execOp,hx',Instr.sliceAt,Instr.slice,run_underlying (adc h2),hb,afp h3 w,SV.re,SC.re,hz,Addr.add]
 |_=>cases hv
theorem yd_slice(h:Sd C m S n w0 E w){t:Nat}{x:Operand}{lo hi mx:Option Operand}{v:SV}(hv:opSlice C m S t x lo hi mx=some v):Yd C S n E w ⟨d,.slice t x lo hi mx,ty,pos,after,gd⟩ v:=
 yd_sliceR h (fun i k hr=>room_ok h hr) hv
end
end
open Go.Wk
open Bool renaming eq_iff_iff -> zbb
open Int renaming toNat_natCast -> zaq
open List renaming length_cons -> zaf, length_map -> zax, map_cons -> zao, mem_cons_of_mem -> zat, mem_cons_self -> zav, set_eq_take_append_cons_drop -> zbk, take_of_length_le -> zaG
open Nat renaming beq -> zai, ble -> zam, min_eq_left -> zaK
open Option renaming rec -> zaj
open UInt8 renaming ofNat -> zaQ
section
variable {C : Cx} {m : M} {S : T} {n : Md} {w0 w : World} {E : En}
variable {d : Option Nat} {ty : TypeId} {pos : String} {after : Array Edge} {gd : Option (Nat × Bool)}
theorem yd_move(h:Sd C m S n w0 E w){x:Operand}{v:SV}(hv:evO m S x=some v):Yd C S n E w ⟨d,.move x,ty,pos,after,gd⟩ v:=by
 obtain⟨hx,hok⟩:=aiz h hv;exact⟨by rw [<-hx];rfl,hok⟩
theorem yd_assign(h:Sd C m S n w0 E w){x:Operand}{v:SV}(hv:evO m S x=some v):Yd C S n E w ⟨d,.assign x,ty,pos,after,gd⟩ v:=by
 obtain⟨hx,hok⟩:=aiz h hv;exact⟨by rw [<-hx];rfl,hok⟩
theorem yd_extract(h:Sd C m S n w0 E w){x:Operand}{i:Nat}{v:SV}(hv:opExtract m S x i=some v):Yd C S n E w ⟨d,.extract x i,ty,pos,after,gd⟩ v:=by
 obtain⟨y,h1,hv⟩:=aab hv;obtain⟨l,h2,hv⟩:=aab hv;obtain⟨z,h3,hv⟩:=aab hv;cases hv
 rw [lget_eq]at h3;obtain⟨hx,hok⟩:=aiz h h1;obtain rfl:=asT_ok h2;have hx':evn n (rF E S.F) x=.tuple (l.map (SA.re E)).toArray:=hx;refine⟨?_,SA.sv_ok (hok z (List.mem_of_getElem? h3))⟩
 simp [execOp,hx',Instr.extract,h3,SA.sv_r]
theorem yd_pick(h:Sd C m S n w0 E w){c a b:Operand}{v:SV}(hv:opPick m S c a b=some v):Yd C S n E w ⟨d,.pick c a b,ty,pos,after,gd⟩ v:=by
 obtain⟨y,h1,hv⟩:=aab hv;obtain⟨t,h2,hv⟩:=aab hv;obtain rfl:=asB_ok h2;have hc:evn n (rF E S.F) c=.bool t:=(ach h h1).1;cases t with
 |true=>
  obtain⟨hx,hok⟩:=aiz h (show evO m S a=some v from hv);exact⟨by simp [execOp,hc,asBool,hx],hok⟩
 |false=>
  obtain⟨hx,hok⟩:=aiz h (show evO m S b=some v from hv);exact⟨by simp [execOp,hc,asBool,hx],hok⟩
theorem yd_nil(h:Sd C m S n w0 E w){x:Operand}{v:SV}(hv:opNil m S x=some v):Yd C S n E w ⟨d,.nilCheck x,ty,pos,after,gd⟩ v:=by
 obtain⟨y,h1,hv⟩:=aab hv;obtain⟨hx,hok⟩:=ach h h1;cases y with
 |p i off=>
  have e:SV.c (.p i off)=v:=Option.some.inj hv;subst e;have hx':evn n (rF E S.F) x=.pointer (some ⟨(E i).1,off,none⟩):=hx;exact⟨by simp [execOp,hx',SV.re,SC.re],hok⟩
 |g i off=>
  have e:SV.c (.g i off)=v:=Option.some.inj hv;subst e;have hx':evn n (rF E S.F) x=.pointer (some ⟨i,off,none⟩):=hx;exact⟨by simp [execOp,hx',SV.re,SC.re],hok⟩
 |fn f l=>
  have e:SV.c (.fn f l)=v:=Option.some.inj hv;subst e;have hx':evn n (rF E S.F) x=SC.re E (.fn f l):=hx;exact⟨by simp [execOp,hx',SV.re,SC.re],hok⟩
 |_=>cases hv
theorem not_lt_dec(a c:Int):(!decide (a<c))=decide (c<=a):=by
 rw [zbb];simp [Int.not_lt]
theorem ofInt_wrap(k:IntKind)(a:Nat):(BitVec.ofInt k.bits (k.wrap (a:Int))).toNat=a%km k:=by
 rw [BitVec.toNat_ofInt];cases k<;>simp [IntKind.wrap,IntKind.bits,IntKind.signed,km]<;>omega
theorem wrap_res(k:IntKind)(a:Nat):(k.wrap (a:Int)%2^k.bits).toNat=a%km k:=by
 have:=ofInt_wrap k a
 rw [BitVec.toNat_ofInt]at this;simpa using this
theorem binI_run{b:BinOp}{k:IntKind}{a c:Nat}{r:SC}{t t':TypeId}{x y:Operand}(hv:binI b k a c=some r){F:Nat->Value}(hx:evn n F x=.int k (k.wrap a))(hy:evn n F y=.int k (k.wrap c)):
  (execOp (evn n F) (⟨d,.binOp b t x y t',ty,pos,after,gd⟩:Oper)).run C.P w=.ok (.value (r.re E)) w/\∀i,r.ok i:=by
 rw [ex_eq];cases b with
 |add=>
  have e:SC.i k ((a+c)%km k)=r:=Option.some.inj hv;subst e;exact⟨by rw [x_add k _ _ hx hy];simp only [SC.re];rw [wrap_add],fun _=>trivial⟩
 |sub=>
  have e:SC.i k ((a+(km k-c%km k))%km k)=r:=Option.some.inj hv;subst e;exact⟨by rw [x_sub k _ _ hx hy];simp only [SC.re];rw [wrap_sub],fun _=>trivial⟩
 |mul=>
  have e:SC.i k ((a*c)%km k)=r:=Option.some.inj hv;subst e;exact⟨by rw [x_mul k _ _ hx hy];simp only [SC.re];rw [wrap_mul],fun _=>trivial⟩
 |lss=>cases hv;exact⟨by rw [x_lss k _ _ hx hy];simp only [SC.re];rw [ilt_eq],fun _=>trivial⟩
 |leq=>
  cases hv
  exact⟨by rw [x_leq k _ _ hx hy];simp only [SC.re,inot_eq];rw [ilt_eq,not_lt_dec],fun _=>trivial⟩
 |gtr=>cases hv;exact⟨by rw [x_gtr k _ _ hx hy];simp only [SC.re];rw [ilt_eq],fun _=>trivial⟩
 |geq=>
  cases hv
  exact⟨by rw [x_geq k _ _ hx hy];simp only [SC.re,inot_eq];rw [ilt_eq,not_lt_dec],fun _=>trivial⟩
 |eql=>cases hv;exact⟨by rw [x_eql k _ _ hx hy];simp only [SC.re];rw [ieqN_eq],fun _=>trivial⟩
 |neq=>cases hv;exact⟨by rw [x_neq k _ _ hx hy];simp only [SC.re,inot_eq];rw [ieqN_eq],fun _=>trivial⟩
 |and=>cases hv;exact⟨by simp [execOp,hx,hy,binOp,eqGuard,Op.intBits,SC.re];rw [wrap_res,wrap_res];rfl,fun _=>trivial⟩
 |or=>cases hv;exact⟨by simp [execOp,hx,hy,binOp,eqGuard,Op.intBits,SC.re];rw [wrap_res,wrap_res];rfl,fun _=>trivial⟩
 |xor=>cases hv;exact⟨by simp [execOp,hx,hy,binOp,eqGuard,Op.intBits,SC.re];rw [wrap_res,wrap_res];rfl,fun _=>trivial⟩
 |_=>cases hv
theorem wrap_res'(k:IntKind)(a:Nat)(h:a%km k<kh k):k.wrap (a:Int)=((a%km k:Nat):Int):=by
 rw [<-ajd,ures_eq,if_neg (by omega)];rfl
theorem kb_eq(k:IntKind):kb k=k.bits:=by cases k<;>rfl
theorem kb_kh(k k':IntKind):kb k<kh k':=by cases k<;>cases k'<;>decide
theorem binSh_run{b:BinOp}{k k':IntKind}{a c:Nat}{r:SC}{t t':TypeId}{x y:Operand}(hv:binSh b k a k' c=some r){F:Nat->Value}(hx:evn n F x=.int k (k.wrap a))(hy:evn n F y=.int k' (k'.wrap c)):
  (execOp (evn n F) (⟨d,.binOp b t x y t',ty,pos,after,gd⟩:Oper)).run C.P w=.ok (.value (r.re E)) w/\∀i,r.ok i:=by
 rw [ex_eq];cases b with
 |shl=>
  obtain⟨h1,h2⟩:=aac (show bi (zam (c%km k') (kb k)) (some (SC.i k ((a*2^(c%km k'))%km k))) none=some r from hv);cases h2
  rw [aaj]at h1;have e:=wrap_res' k' c (by have:=kb_kh k k';omega);have h0:(0:Int)<=k'.wrap c:=by rw [e];omega
  have hp:(2:Int)^(min (k'.wrap c).toNat k.bits)=((2^(c%km k'):Nat):Int):=by
   rw [e,zaq,<-kb_eq,zaK h1];simp
  refine⟨?_,fun _=>trivial⟩
  rw [x_shl k k' _ _ _ hx hy h0 hp];simp only [SC.re];rw [wrap_mulN]
 |shr=>
  obtain⟨h1,h2⟩:=aac (show bi (zam (c%km k') (kb k)) (bi (zam (a%km k+1) (kh k)) (some (SC.i k ((a%km k)/2^(c%km k')))) none) none=some r from hv);obtain⟨h3,h2⟩:=aac h2;cases h2
  rw [aaj]at h1 h3;have e:=wrap_res' k' c (by have:=kb_kh k k';omega);have e':=wrap_res' k a (by omega);have h0:(0:Int)<=k'.wrap c:=by rw [e];omega
  have hp:(2:Int)^(min (k'.wrap c).toNat k.bits)=((2^(c%km k'):Nat):Int):=by
   rw [e,zaq,<-kb_eq,zaK h1];simp
  refine⟨?_,fun _=>trivial⟩
  rw [x_shr k k' _ _ _ hx hy h0 hp (by exact_mod_cast Nat.pow_pos (by decide)),e'];simp only [SC.re];have h4:(a%km k)/2^(c%km k')<kh k:=Nat.lt_of_le_of_lt (Nat.div_le_self _ _) (by omega);rw [wrap_small h4,Int.natCast_ediv]
 |_=>cases hv
theorem binS_run{b:BinOp}{l x0 m0 y0:Nat}{r:SC}{t t':TypeId}{x y:Operand}(hv:binS b l x0 m0 y0=some r){F:Nat->Value}(hx:evn n F x=str (dec l x0))(hy:evn n F y=str (dec m0 y0)):
  (execOp (evn n F) (⟨d,.binOp b t x y t',ty,pos,after,gd⟩:Oper)).run C.P w=.ok (.value (r.re E)) w/\∀i,r.ok i:=by
 rw [ex_eq];cases b with
 |eql=>cases hv;exact⟨by rw [x_streq _ _ hx hy];simp only [SC.re];rw [seq_eq],fun _=>trivial⟩
 |neq=>cases hv;exact⟨by rw [x_strne _ _ hx hy];simp only [SC.re,inot_eq];rw [seq_eq],fun _=>trivial⟩
 |lss=>cases hv;exact⟨by rw [x_strlt _ _ hx hy];simp only [SC.re],fun _=>trivial⟩
 |gtr=>
  cases hv
  refine⟨by rw [x_strgt _ _ hx hy];simp only [SC.re,inot_eq];rw [seq_eq];congr 5;rw [zbb];simp,fun _=>trivial⟩
 |add=>
  obtain⟨h1,h2⟩:=aac (show bi (zam (l+m0) 1000000000000) (some (scat l x0 m0 y0)) none=some r from hv);cases h2
  rw [aaj]at h1;refine⟨?_,fun _=>trivial⟩
  rw [x_strcat _ _ hx hy (by rw [aby,aby];omega)];rw [dec_app];rfl
 |_=>cases hv
theorem yd_bin(h:Sd C m S n w0 E w){b:BinOp}{t t':Nat}{x y:Operand}{v:SV}(hv:opBin C m S ⟨d,.binOp b t x y t',ty,pos,after,gd⟩ b t x y=some v):Yd C S n E w ⟨d,.binOp b t x y t',ty,pos,after,gd⟩ v:=by
 unfold opBin at hv;cases hb:(ob (evC m S x) fun vx=>ob (evC m S y) fun vy=>binX C b t vx vy)with
 |none=>rw [hb]at hv;exact gen_ok h hv
 |some u=>
  rw [hb]at hv;obtain rfl:u=v:=Option.some.inj hv;obtain⟨vx,h1,hb⟩:=aab hb;obtain⟨vy,h2,hb⟩:=aab hb;have hx:=(ach h h1).1;have hy:=(ach h h2).1;unfold binX at hb;cases hs:vx.isSl with
  |true=>
   rw [hs]at hb;obtain⟨h3,hb⟩:=aac (show bi vy.isNs (ob (tSl C t) fun _=>ob (isEq b) fun r=>some (SV.c (.b r))) none=some u from hb);obtain⟨e,h4,hb⟩:=aab hb;obtain⟨r,h5,hb⟩:=aab hb;cases hb
   have ht:=adc h4;cases vx with
   |sl i base k c=>
    cases vy with
    |ns=>
     have hx':evn n (rF E S.F) x=.slice (some ⟨(E i).1,base,none⟩) k (c.re E i):=hx;have hy':evn n (rF E S.F) y=.slice none 0 0:=hy;have e1:=run_equal_slice_nil (P:=C.P) w t e (some ⟨(E i).1,base,none⟩) k (c.re E i) ht;refine⟨?_,trivial⟩
     cases b with
     |eql=>cases h5;simp [execOp,hx',hy',eqGuard,binOp,e1,SV.re,SC.re]
     |neq=>cases h5;simp [execOp,hx',hy',eqGuard,binOp,e1,SV.re,SC.re]
     |_=>cases h5
    |_=>cases h3
   |z i base dd off=>
    cases vy with
    |ns=>
     have hx':evn n (rF E S.F) x=.slice (some ⟨(E i).1,if(E i).2-off=0 then base else base+dd,none⟩) 0 ((E i).2-off):=hx;have hy':evn n (rF E S.F) y=.slice none 0 0:=hy;have e1:=run_equal_slice_nil (P:=C.P) w t e (some ⟨(E i).1,if(E i).2-off=0 then base else base+dd,none⟩) 0 ((E i).2-off) ht;refine⟨?_,trivial⟩
     cases b with
     |eql=>cases h5;simp [execOp,hx',hy',eqGuard,binOp,e1,SV.re,SC.re]
     |neq=>cases h5;simp [execOp,hx',hy',eqGuard,binOp,e1,SV.re,SC.re]
     |_=>cases h5
    |_=>cases h3
   |_=>cases hs
  |false=>
   rw [hs]at hb;obtain⟨r,h3,hb⟩:=aab (show(ob (bin b vx vy) fun r=>some (SV.c r))=some u from hb);cases hb
   unfold bin at h3;cases hi:vx.asI with
   |some p=>
    rw [hi]at h3;obtain⟨q,h4,h3⟩:=aab h3;obtain⟨k,a⟩:=p;obtain⟨k',c⟩:=q;obtain rfl:=asI_ok hi;obtain rfl:=asI_ok h4;have h3:(zaj (bi (zai (kn k) (kn k')) (binI b k a c) none) some (binSh b k a k' c):Option SC)=some r:=h3;cases hsh:binSh b k a k' c with
    |some u=>
     rw [hsh]at h3;obtain rfl:u=r:=Option.some.inj h3;obtain⟨h6,h7⟩:=binSh_run (C:=C) (w:=w) (E:=E) (n:=n) (d:=d) (ty:=ty) (pos:=pos) (after:=after) (gd:=gd) (t:=t) (t':=t') hsh hx hy;exact⟨h6,h7 _⟩
    |none=>
    rw [hsh]at h3;obtain⟨h5,h3b⟩:=aac h3;have hk:=kn_inj h5;subst hk;obtain⟨h6,h7⟩:=binI_run (C:=C) (w:=w) (E:=E) (n:=n) (d:=d) (ty:=ty) (pos:=pos) (after:=after) (gd:=gd) (t:=t) (t':=t') h3b hx hy;exact⟨h6,h7 _⟩
   |none=>
    rw [hi]at h3;obtain⟨p,h4,h3⟩:=aab h3;obtain⟨q,h5,h3b⟩:=aab h3;obtain rfl:=asS_ok h4;obtain rfl:=asS_ok h5;obtain⟨h6,h7⟩:=binS_run (C:=C) (w:=w) (E:=E) (n:=n) (d:=d) (ty:=ty) (pos:=pos) (after:=after) (gd:=gd) (t:=t) (t':=t') h3b hx hy;exact⟨h6,h7 _⟩
theorem yd_not(h:Sd C m S n w0 E w){u:UnOp}{t:Nat}{x:Operand}{v:SV}(hv:opNot C m S ⟨d,.unOp u t x,ty,pos,after,gd⟩ u x=some v):Yd C S n E w ⟨d,.unOp u t x,ty,pos,after,gd⟩ v:=by
 cases u with
 |not=>
  obtain⟨y,h1,hv⟩:=aab (show(ob (evC m S x) fun v=>ob v.asB fun b=>some (SV.c (.b (inot b))))=some v from hv);obtain⟨b,h2,hv⟩:=aab hv;cases hv
  obtain rfl:=asB_ok h2;have hx:evn n (rF E S.F) x=.bool b:=(ach h h1).1;refine⟨?_,trivial⟩
  rw [ex_eq,x_not b hx];simp only [SV.re,SC.re,inot_eq]
 |_=>exact gen_ok h hv
theorem fillZ:∀(off:Nat) (vs cells:List Value) (k:Nat),off+k+vs.length<=cells.length->
  (vs.zipIdx k).foldl (fun cs (p:Value×Nat)=>cs.setIfInBounds (off+p.2) p.1) cells.toArray=(cells.take (off+k)++vs++cells.drop (off+k+vs.length)).toArray
 |off,[],cells,k,h=>by simp
 |off,v::vs,cells,k,h=>by
  simp only [zaf]at h;simp only [List.zipIdx_cons,List.foldl_cons];have e:(cells.toArray.setIfInBounds (off+k) v)=(cells.set (off+k) v).toArray:=by simp
  rw [e,fillZ off vs (cells.set (off+k) v) (k+1) (by simp;omega)];congr 1
  have h1:(cells.set (off+k) v).take (off+(k+1))=cells.take (off+k)++[v]:=by
   rw [zbk,if_pos (by omega)];have hl:(cells.take (off+k)).length=off+k:=by simp;omega
   rw [List.take_append,hl,zaG (by rw [hl];omega),show off+(k+1)-(off+k)=1 by omega];simp
  have h2:(cells.set (off+k) v).drop (off+(k+1)+vs.length)=cells.drop (off+k+(vs.length+1)):=by
   rw [List.drop_set_of_lt (by omega)];congr 1;omega
  rw [h1,h2];simp
theorem map_lput{α β:Type}(f:α->β)(xs:List α)(k:Nat)(vs:List α)(h:k+vs.length<=xs.length):(lput xs k vs).map f=(xs.map f).take k++vs.map f++(xs.map f).drop (k+vs.length):=by
 rw [lput_eq _ _ _ h];simp
theorem fill_ok(pl:Nat->Option (Nat×Nat))(K:Nat):∀(parts:List (Nat×SV)) (cs r:List SC),(∀p∈parts,p.2.ok K)->(∀x∈cs,x.ok K)->fillC pl parts cs=some r->
  Instr.fill pl (cs.map (SC.re E)).toArray (parts.map fun p=>(p.1,p.2.re E))=some (r.map (SC.re E)).toArray/\r.length=cs.length/\∀x∈r,x.ok K
 |[],cs,r,_,hc,h=>by
  have e:cs=r:=Option.some.inj h;subst e;exact⟨rfl,rfl,hc⟩
 |(i,v)::parts,cs,r,hp,hc,h=>by
  obtain⟨q,h1,h⟩:=aab h;obtain⟨vs,h2,h⟩:=aab h;obtain⟨h3,h⟩:=aac h;obtain⟨h4,h⟩:=aac h;rw [aak,abm]at h3;rw [aaj,abm,abm]at h4;have h4':q.1+vs.length<=cs.length:=h4;have hv:=hp (i,v) (zav);obtain⟨h5,h6,h7⟩:=fill_ok pl K parts (lput cs q.1 vs) r (fun p hm=>hp p (zat _ hm)) (lput_mem cs q.1 vs h4' _ hc (SV.cells_ok h2 hv)) h;refine⟨?_,by rw [h6,lput_len _ _ _ h4'],h7⟩
  obtain⟨off,size⟩:=q;simp only [zao,Instr.fill,h1];have hcell:=SV.cells_r (E:=E) h2;have hsz:(v.re E).cells.size=vs.length:=by rw [hcell];simp
  have hc2:¬(((v.re E).cells.size≠size||decide (off+(v.re E).cells.size>(cs.map (SC.re E)).toArray.size))=true):=by
   rw [hsz];simp only at h3 h4';simp [h3];omega
  rw [if_neg hc2,<-h5];congr 1
  rw [hcell];have hz:=fillZ off (vs.map (SC.re E)) (cs.map (SC.re E)) 0 (by simp;exact h4');simp only [Nat.add_zero,zax]at hz;rw [map_lput _ _ _ _ h4'];simp only [zax]at hz⊢;rw [<-hz,<-Array.foldl_toList];simp [Array.toList_zipIdx]
theorem evParts_ok(h:Sd C m S n w0 E w):∀{ps:List (Nat×Operand)} {l:List (Nat×SV)},evParts m S ps=some l->(ps.map fun p=>(p.1,evn n (rF E S.F) p.2))=(l.map fun p=>(p.1,p.2.re E))/\∀p∈l,p.2.ok S.H.nx
 |[],l,hv=>by
  have e:[]=l:=Option.some.inj hv;subst e;simp
 |p::ps,l,hv=>by
  obtain⟨v,h1,hv⟩:=aab hv;obtain⟨q,h2,hv⟩:=aab hv;cases hv
  obtain⟨h3,h4⟩:=evParts_ok h (show evParts m S ps=some q from h2);obtain⟨h5,h6⟩:=aiz h h1;refine⟨by simp [h3,h5],fun y hy=> ?_⟩
  rcases List.mem_cons.1 hy with rfl|hy
  ·exact h6
  ·exact h4 y hy
theorem placesL_ok:∀{fs:List Field} {l:List (Nat×Nat)},placesL C fs=some l->(fs.mapM fun f=>(do pure (f.offset,<-sizeOf f.type):Sem (Nat×Nat))).run C.P w=.ok l w
 |[],l,hv=>by
  have e:[]=l:=Option.some.inj hv;subst e;simp
 |f::fs,l,hv=>by
  obtain⟨z,h1,hv⟩:=aab hv;obtain⟨q,h2,hv⟩:=aab hv;cases hv
  have ih:=placesL_ok (show placesL C fs=some q from h2);rw [List.mapM_cons];simp only [Sem.run_bind,afp h1 w,Result.andThen_ok,Sem.run_pure,ih]
theorem yd_build(h:Sd C m S n w0 E w){t:Nat}{ps:Array (Nat×Operand)}{v:SV}(hv:opBuild C m S t ps=some v):Yd C S n E w ⟨d,.build t ps,ty,pos,after,gd⟩ v:=by
 obtain⟨l,h1,hv⟩:=aab hv;obtain⟨z,h2,hv⟩:=aab hv;obtain⟨pl,h3,hv⟩:=aab hv;obtain⟨cs,h4,hv⟩:=aab hv;cases hv
 obtain⟨zv,h5,h6,h7⟩:=ajl h2 E S.H.nx w;obtain⟨h8,h9⟩:=evParts_ok h h1;obtain⟨h10,_,h11⟩:=fill_ok (E:=E) pl S.H.nx l z cs h9 h7 h4;have hparts:(ps.map fun p=>(p.1,evn n (rF E S.F) p.2)).toList=l.map fun p=>(p.1,p.2.re E):=by rw [<-h8];simp
 refine⟨?_,h11⟩
 unfold places at h3;cases hs:tSt C t with
 |some fs=>
  rw [hs]at h3;obtain⟨lp,h12,h3⟩:=aab h3;cases h3
  have hm:=placesL_ok (w:=w) h12;have hpl:(fun i=>lget lp i)=fun i=>lp.toArray[i]? :=by funext i;rw [lget_eq];simp
  rw [hpl]at h10;simp only [execOp,Instr.build,Sem.run_bind,h5,Result.andThen_ok,run_underlying (tSt_ok hs),h6,List.mapM_toArray,Sem.run_map,hm,Sem.run_pure];rw [hparts,h10];rfl
 |none=>
  rw [hs]at h3;obtain⟨q,h12,h3⟩:=aab h3;obtain⟨sz,h13,h3⟩:=aab h3;cases h3
  simp only [execOp,Instr.build,Sem.run_bind,h5,Result.andThen_ok,run_underlying (tAr_ok h12),h6,afp h13 w];rw [hparts];have h10':Instr.fill (fun i=>some (i*sz,sz)) (z.map (SC.re E)).toArray (l.map fun p=>(p.1,p.2.re E))=some (cs.map (SC.re E)).toArray:=h10;rw [h10'];rfl
theorem capIds_ok(h:Sd C m S n w0 E w):∀{l:List Operand} {ids:List Nat},capIds m S l=some ids->(l.map (evn n (rF E S.F)))=(ids.map fun i=>Value.pointer (some ⟨(E i).1,0,none⟩))/\∀i∈ids,i<S.H.nx
 |[],ids,hv=>by
  have e:[]=ids:=Option.some.inj hv;subst e;simp
 |x::l,ids,hv=>by
  obtain⟨v,h1,hv⟩:=aab hv;obtain⟨p,h2,hv⟩:=aab hv;obtain⟨h3,hv⟩:=aac hv;obtain⟨q,h4,hv⟩:=aab hv;cases hv
  rw [aak]at h3;obtain⟨i,off⟩:=p;obtain rfl:=asP_ok h2;have h3':off=0:=h3;subst h3';obtain⟨h5,h6⟩:=ach h h1;obtain⟨h7,h8⟩:=capIds_ok h (show capIds m S l=some q from h4);refine⟨by simp [h5,h7,SC.re],fun y hy=> ?_⟩
  rcases List.mem_cons.1 hy with rfl|hy
  ·exact h6
  ·exact h8 y hy
theorem yd_func(h:Sd C m S n w0 E w){f:Fn}{a b:Array Operand}{v:SV}(hv:opFunc m S f a b=some v):Yd C S n E w ⟨d,.makeFunc f a b,ty,pos,after,gd⟩ v:=by
 obtain⟨k,h1,hv⟩:=aab hv;obtain⟨h2,hv⟩:=aac hv;obtain⟨l,h3,hv⟩:=aab hv;cases hv
 obtain⟨h4,h5⟩:=capIds_ok h h3;refine⟨?_,h5⟩
 cases f with
 |func k'=>
  obtain rfl:k'=k:=Option.some.inj h1;have ha:a= #[]:=by
   obtain⟨l⟩:=a;cases l with
   |nil=>rfl
   |cons x l=>cases h2
  subst ha;have hb:b.map (evn n (rF E S.F))=(l.map fun i=>Value.pointer (some ⟨(E i).1,0,none⟩)).toArray:=by
   rw [<-h4];exact Array.toList_inj.1 (by rw [Array.toList_map])
  simp only [execOp,Instr.makeFunc,hb,SV.re,SC.re,List.map_toArray,List.map_nil];rfl
 |_=>cases h1
theorem only_ok{α:Type}{l:List α}{x:α}(h:only l=some x):l=[x]:=by
 cases l with
 |nil=>cases h
 |cons y l=>
  obtain⟨h1,h2⟩:=aac (show bi l.isEmpty (some y) none=some x from h);cases h2
  cases l with
  |nil=>rfl
  |cons z l=>cases h1
theorem aja{α:Type}{a:Array α}{l:List α}(h:a.toList=l):a=l.toArray:=by subst h;rfl
theorem yd_len(h:Sd C m S n w0 E w){azq:Array Operand}{ts:Array TypeId}{v:SV}(hv:opLen C m S ⟨d,.call ⟨.builtin .len,azq,ts⟩,ty,pos,after,gd⟩ ⟨.builtin .len,azq,ts⟩=some v):Yd C S n E w ⟨d,.call ⟨.builtin .len,azq,ts⟩,ty,pos,after,gd⟩ v:=by
 unfold opLen at hv;cases hb:(ob (only azq.toList) fun x=>ob (only ts.toList) fun t=>ob (evC m S x) fun v=>(zaj
  (ob (slLen v) fun n=>ob (tSl C t) fun _=>iOf .i64 n)
  (fun q=>ob (tStr C t) fun _=>iOf .i64 q.1) v.asS:Option SV))with
 |none=>rw [hb]at hv;exact gen_ok h hv
 |some u=>
  rw [hb]at hv;obtain rfl:u=v:=Option.some.inj hv;obtain⟨x,h1,hb⟩:=aab hb;obtain⟨t,h2,hb⟩:=aab hb;obtain⟨y,h3,hb9⟩:=aab hb;obtain rfl:=aja (only_ok h1);obtain rfl:=aja (only_ok h2);have hx:=(ach h h3).1;unfold Yd;rw [ex_eq];cases hs:y.asS with
  |some q=>
   rw [hs]at hb9;obtain⟨_,h4,hb9⟩:=aab hb9;obtain⟨h5,h6⟩:=iOf_ok hb9;obtain rfl:=asS_ok hs;refine⟨?_,by rw [h5];trivial⟩
   rw [x_len (dec q.1 q.2) (ajo h4) hx,aby,h6]
  |none=>
   rw [hs]at hb9;obtain⟨k,h4,hb9⟩:=aab hb9;obtain⟨e,h5,hb9⟩:=aab hb9;obtain⟨h6,h7⟩:=iOf_ok hb9;refine⟨?_,by rw [h6];trivial⟩
   cases y with
   |sl i base k' c=>
    obtain rfl:k'=k:=Option.some.inj h4;rw [x_lenS (some ⟨(E i).1,base,none⟩) k' (c.re E i) e (adc h5) hx,h7]
   |z i base dd off=>
    obtain rfl:0=k:=Option.some.inj h4;rw [x_lenS _ 0 ((E i).2-off) e (adc h5) hx,h7]
   |_=>cases h4
theorem yd_cap(h:Sd C m S n w0 E w){azq:Array Operand}{ts:Array TypeId}{v:SV}(hv:opCap C m S ⟨d,.call ⟨.builtin .cap,azq,ts⟩,ty,pos,after,gd⟩ ⟨.builtin .cap,azq,ts⟩=some v):Yd C S n E w ⟨d,.call ⟨.builtin .cap,azq,ts⟩,ty,pos,after,gd⟩ v:=by
 unfold opCap at hv;cases hb:(ob (only azq.toList) fun x=>ob (only ts.toList) fun t=>ob (evC m S x) fun v=>ob (slCap v) fun n=>ob (tSl C t) fun _=>iOf .i64 n)with
 |none=>rw [hb]at hv;exact gen_ok h hv
 |some u=>
  rw [hb]at hv;obtain rfl:u=v:=Option.some.inj hv;obtain⟨x,h1,hb⟩:=aab hb;obtain⟨t,h2,hb⟩:=aab hb;obtain⟨y,h3,hb⟩:=aab hb;obtain⟨k,h4,hb⟩:=aab hb;obtain⟨e,h5,hb⟩:=aab hb;obtain⟨h6,h7⟩:=iOf_ok hb;obtain rfl:=aja (only_ok h1);obtain rfl:=aja (only_ok h2);have hx:=(ach h h3).1;refine⟨?_,by rw [h6];trivial⟩
  cases y with
  |sl i base k' c=>
   cases c with
   |k c=>
    obtain rfl:c=k:=Option.some.inj h4;have hx':evn n (rF E S.F) x=.slice (some ⟨(E i).1,base,none⟩) k' c:=hx;simp [execOp,resolve,invoke,builtin,hx',Builtin.cap_,run_underlying (adc h5),goInt,h7]
   |r off=>cases h4
  |_=>cases h4
theorem asU8_ok{x:SC}{c:Nat}(h:x.asU8=some c):c<256/\∀E:En,x.re E=bt (zaQ c):=by
 obtain⟨q,h1,h⟩:=aab h;obtain⟨h2,h⟩:=aac h;cases h
 have hk:=kn_inj h2;obtain⟨k,a⟩:=q;simp only at hk;subst hk;obtain rfl:=asI_ok h1;have hlt:a%256<256:=Nat.mod_lt _ (by decide);refine⟨hlt,fun E=> ?_⟩
 show Value.int .u8 (IntKind.u8.wrap (a:Int))=Value.int .u8 ((zaQ (a%256)).toNat:Int);rw [bytes_lt _ hlt,IntKind.wrap_u8];rfl
theorem encC_ok:∀{l:List SC} {q:Nat},encC l=some q->∀E:En,l.map (SC.re E)=(dec l.length q).map bt
 |[],q,h,E=>rfl
 |x::l,q,h,E=>by
  obtain⟨c,h1,h⟩:=aab h;obtain⟨r,h2,h⟩:=aab h;have e:c+256*r=q:=Option.some.inj h;subst e;obtain⟨h3,h4⟩:=asU8_ok h1;have ih:=encC_ok (show encC l=some r from h2) E;have e1:(c+256*r)%256=c:=by omega
  have e2:(c+256*r)/256=r:=by omega
  simp only [zao,zaf,dec,e1,e2,ih,h4]
theorem yd_conv(h:Sd C m S n w0 E w){s t:Nat}{x:Operand}{v:SV}(hv:opConv C m S ⟨d,.convert s t x,ty,pos,after,gd⟩ s t x=some v):Yd C S n E w ⟨d,.convert s t x,ty,pos,after,gd⟩ v:=by
 unfold opConv at hv;cases hb:ob (evC m S x) (convC C S s t)with
 |none=>rw [hb]at hv;exact gen_ok h hv
 |some u=>
  rw [hb]at hv;obtain rfl:u=v:=Option.some.inj hv;obtain⟨y,h1,hb⟩:=aab hb;obtain⟨hx,hok⟩:=ach h h1;unfold Yd;rw [ex_eq];cases y with
  |i k a=>
   obtain⟨k0,h2,hb⟩:=aab (show(ob (tIn C s) fun k0=>ob (tIn C t) fun k'=>bi (zai (kn k) (kn k0)) (some (SV.c (.i k' (conI k k' a)))) none)=some u from hb);obtain⟨k',h3,hb⟩:=aab hb;obtain⟨h4,hb⟩:=aac hb;cases hb
   have hk:=kn_inj h4;subst hk;refine⟨?_,trivial⟩
   rw [x_conv k' k _ (tIn_ok h2) (tIn_ok h3) hx];simp only [SV.re,SC.re,conI_eq]
  |s l q=>
   obtain⟨_,h2,hb⟩:=aab (show(ob (tStr C s) fun _=>ob (tStr C t) fun _=>some (SV.c (.s l q)))=some u from hb);obtain⟨_,h3,hb⟩:=aab hb;cases hb
   exact⟨x_convstr (dec l q) (ajo h2) (ajo h3) hx,trivial⟩
  |z i base dd off=>
   obtain⟨e,h2,hb⟩:=aab (show(ob (tSl C s) fun e=>ob (tStr C t) fun _=>ob (isU8 C e) fun _=>some (SV.c (.s 0 0)))=some u from hb);obtain⟨_,h3,hb⟩:=aab hb;obtain⟨_,h4,hb⟩:=aab hb;cases hb
   have hR:Rd w (some ⟨(E i).1,if(E i).2-off=0 then base else base+dd,none⟩) (([]:Str).map bt):=by
    intro j u hu;cases hu
   refine⟨?_,trivial⟩
   exact ajm [] (some ⟨(E i).1,if(E i).2-off=0 then base else base+dd,none⟩) 0 ((E i).2-off) e hR rfl (adc h2) (ajo h3) (isU8_ok h4) hx
  |sl i base k c=>
   obtain⟨e,h2,hb⟩:=aab (show convL C S s t i base k=some u from hb);obtain⟨_,h3,hb⟩:=aab hb;obtain⟨_,h4,hb⟩:=aab hb;obtain⟨xs,h5,hb⟩:=aab hb;obtain⟨h6,hb⟩:=aac hb;obtain⟨q,h7,hb⟩:=aab hb;cases hb
   rw [aaj,abm]at h6;have h6':base+k<=xs.length:=h6;obtain⟨h8,_⟩:=cellsOf_okk h h5;rw [aia,ldrop_eq]at h7;have h9:=encC_ok h7 E;have hlen:((xs.drop base).take k).length=k:=by simp;omega
   rw [hlen]at h9;have hR:Rd w (some ⟨(E i).1,base,none⟩) ((dec k q).map bt):=by
    intro j u hu;rw [<-h9,List.getElem?_map]at hu;obtain⟨y,hy,rfl⟩:=Option.map_eq_some_iff.1 hu;refine⟨_,rfl, ?_⟩
    rw [abb];rw [List.getElem?_take]at hy;split at hy
    ·rw [List.getElem?_drop]at hy;exact h8 _ y hy
    ·cases hy
   refine⟨?_,trivial⟩
   exact ajm (dec k q) (some ⟨(E i).1,base,none⟩) k (c.re E i) e hR (aby k q) (adc h2) (ajo h3) (isU8_ok h4) hx
  |_=>cases hb
theorem yd_call(h:Sd C m S n w0 E w){c:Call}{v:SV}(hv:opCallV C m S ⟨d,.call c,ty,pos,after,gd⟩ c=some v):Yd C S n E w ⟨d,.call c,ty,pos,after,gd⟩ v:=by
 obtain⟨cl,azq,ts⟩:=c;unfold opCallV at hv;dsimp only at hv;split at hv
 ·exact yd_len h hv
 ·exact yd_cap h hv
 ·exact gen_ok h hv
theorem opV_ok(h:Sd C m S n w0 E w){o:Oper}{v:SV}(hv:opV o.op C m S o=some v):Yd C S n E w o v:=by
 obtain⟨d,op,ty,pos,after,gd⟩:=o;cases op with
 |move x=>exact yd_move h hv
 |assign x=>exact yd_assign h hv
 |pick c a b=>exact yd_pick h hv
 |build t ps=>exact yd_build h hv
 |load t x=>exact yd_load h hv
 |nilCheck x=>exact yd_nil h hv
 |binOp b t x y t'=>exact yd_bin h hv
 |unOp u t x=>exact yd_not h hv
 |convert s t x=>exact yd_conv h hv
 |makeFunc f a b=>exact yd_func h hv
 |slice t x lo hi mx=>exact yd_slice h hv
 |fieldAddr t x f=>exact yd_fieldAddr h hv
 |field t x f=>exact yd_field h hv
 |indexAddr t x ix=>exact yd_indexAddr h hv
 |index t x ix=>exact yd_index h hv
 |extract x i=>exact yd_extract h hv
 |call c=>exact yd_call h hv
 |_=>exact gen_ok h hv
end
open Go.Wk
open Int renaming toNat_natCast -> zaq
open List renaming append_assoc -> zaC, drop -> zaE, eq_nil_of_length_eq_zero -> zaA, length_append -> zae, length_cons -> zaf, length_map -> zax, map_append -> zbc, mem_of_mem_take -> zaL, set_eq_take_append_cons_drop -> zbk, take_of_length_le -> zaG
open Nat renaming add_mul -> zaX, ble -> zam, le_mul_of_pos_right -> zbl, le_refl -> zab, lt_succ_self -> zad, min_eq_left -> zaK, mul_le_mul_right -> zak, succ_mul -> zaV
open UInt8 renaming ofNat -> zaQ
section
variable {C : Cx} {m : M} {S : T} {n : Md} {w0 w : World} {E : En} {H : Hs}
variable {d : Option Nat} {ty : TypeId} {pos : String} {after : Array Edge} {gd : Option (Nat × Bool)}
def ade(E:En):Option SV->Next
 |some v=>.value (v.re E)
 |none=>.skip
def vok(k:Nat):Option SV->Prop
 |some v=>v.ok k
 |none=>True
def Efx(C:Cx)(S:T)(n:Md)(w0:World)(E:En)(w:World)(o:Oper)(r:Option SV×Hs):Prop:=
 ∃E' w',Ag S.H.nx E E'/\S.H.nx<=r.2.nx/\Inv w0 E' r.2 w'/\vok r.2.nx r.1/\(execOp (evn n (rF E S.F)) o).run C.P w=.ok (ade E' r.1) w'
theorem ahu(h:Sd C m S n w0 E w){o:Oper}{x:Option SV}{r:Option SV×Hs}(hx:∀v,x=some v->Yd C S n E w o v)(hv:wVal S x=some r):Efx C S n w0 E w o r:=by
 obtain⟨v,h1,hv⟩:=aab hv;cases hv
 obtain⟨h2,h3⟩:=hx v h1;exact⟨E,w,Ag.refl _ _,zab _,h.inv,h3,h2⟩
theorem hp_weak{L:List Res}{k:Nat}{r r':Res}(h:Hp w0 [] L w)(hk:L[k]? =some r)(ho:r'.own=r.own)(hr:r'.holds w):Hp w0 [] (L.set k r') w:=
 h.change k r r' hk rfl rfl rfl (zab _) (fun _ _ _=>rfl) hr (fun b hb=>by
  rw [ho]at hb;exact⟨.inl hb,((h.res _ (List.mem_of_getElem? hk)).2 b hb).1⟩)
theorem inv_new(h:Inv w0 E H w){o:Obj}{b:HB}{p:Nat×Nat}{w':World}(hp:p.1=w.heap.size)(hb:b.ok (H.nx+1))(ho:(resOf (eat E H.nx p) H.nx b).own=some w.heap.size)(hr:(resOf (eat E H.nx p) H.nx b).ok (some o))
  (hw:w'={w with drawn:=w'.drawn,heap:=w.heap.push o}):Inv w0 (eat E H.nx p) (H.add b) w':=by
 refine h.add (ahf E H.nx p) hb ?_;have h2:Hp w [] [resOf (eat E H.nx p) H.nx b] w':=by
  have e1:w'.heap=w.heap.push o:=by rw [hw]
  refine⟨by rw [hw],by rw [hw],by rw [hw],by rw [e1];simp,fun k hk _=>by rw [e1,Array.getElem?_push,if_neg (by omega)],fun r hr'=> ?_,by simp⟩
  simp at hr'
  subst hr';refine⟨?_,fun k hk=> ?_⟩
  ·unfold Res.holds;rw [ho];simpa [e1] using hr
  ·rw [ho]at hk;cases hk
   simp [e1]
 exact h.hp.callL h2
theorem okUp{l:List SC}{k:Nat}(h:∀x∈l,x.ok k):∀x∈l,x.ok (k+1):=fun x hx=>SC.up (Nat.le_succ k) (h x hx)
theorem inv_blk(h:Inv w0 E H w){t:Nat}{z:List SC}(hz:∀x∈z,x.ok H.nx):Inv w0 (eat E H.nx (w.heap.size,0)) (H.add (.cl t .ex z)) (w.alloc (.cells (z.map (SC.re E)).toArray t)):=by
 refine inv_new h rfl (okUp hz) ?_ ?_ rfl (o:=.cells (z.map (SC.re E)).toArray t)
 ·simp only [resOf,cres,abu]
 ·simp only [resOf,cres];rw [scs_ext (ahf E H.nx _) hz];exact⟨_,t,(0,0),rfl,.inr rfl,by simp,zaG (by simp),by simp,rfl⟩
theorem ef_alloc(h:Sd C m S n w0 E w){t:Nat}{r:Option SV×Hs}(hv:wAlloc C S t=some r):Efx C S n w0 E w ⟨d,.alloc t,ty,pos,after,gd⟩ r:=by
 obtain⟨z,h1,hv⟩:=aab hv;cases hv
 obtain⟨zv,h2,h3,h4⟩:=ajl h1 E S.H.nx w;refine⟨_,_,ahf E _ (w.heap.size,0),Nat.le_succ _,inv_blk h.inv h4,zad _, ?_⟩
 simp [execOp,Instr.alloc,h2,newVar,newRow,h3,ade,SV.re,SC.re,abu]
theorem ef_box(h:Sd C m S n w0 E w){t:Nat}{x:Operand}{r:Option SV×Hs}(hv:wBox m S t x=some r):Efx C S n w0 E w ⟨d,.box t x,ty,pos,after,gd⟩ r:=by
 obtain⟨v,h1,hv⟩:=aab hv;obtain⟨z,h2,hv⟩:=aab hv;cases hv
 obtain⟨h3,h4⟩:=aiz h h1;refine⟨_,_,ahf E _ (w.heap.size,0),Nat.le_succ _,inv_blk h.inv (SV.cells_ok h2 h4),zad _, ?_⟩
 have hc:=SV.cells_r (E:=E) h2;have hr:(execOp (evn n (rF E S.F)) (⟨d,.box t x,ty,pos,after,gd⟩:Oper)).run C.P w=.ok (.value (.pointer (some ⟨w.heap.size,0,none⟩))) (w.alloc (.cells (z.map (SC.re E)).toArray t)):=by
  simp [execOp,Instr.box,h3,newVar,newRow,hc]
 rw [hr];simp only [ade,SV.re,SC.re,abu]
theorem lrep_get(z:List SC):∀(k j:Nat),j<k*z.length->(lrep z k)[j]? =z[j%z.length]?
 |0,j,h=>by omega
 |k+1,j,h=>by
  show(lapp z (lrep z k))[j]? =_
  rw [air];by_cases hj:j<z.length
  ·rw [List.getElem?_append_left hj,Nat.mod_eq_of_lt hj]
  ·rw [List.getElem?_append_right (by omega),lrep_get z k _ (by rw [zaV]at h;omega)];rw [<-Nat.mod_eq_sub_mod (by omega)]
theorem lrep_len(z:List SC):∀k,(lrep z k).length=k*z.length
 |0=>by show([]:List SC).length=_;simp
 |k+1=>by
  show(lapp z (lrep z k)).length=_
  rw [air,zae,lrep_len z k,zaV];omega
theorem lrep_mem{z:List SC}{p:SC->Prop}(hz:∀x∈z,p x):∀k,∀x∈lrep z k,p x
 |0,x,hx=>by cases hx
 |k+1,x,hx=>by
  have hx':x∈lapp z (lrep z k):=hx;rw [air]at hx';rcases List.mem_append.1 hx' with h|h
  ·exact hz x h
  ·exact lrep_mem hz k x h
theorem made_eq{z:List SC}{k:Nat}{a:Array Value}(ha:a=(z.map (SC.re E)).toArray):(Array.range (k*z.length)).map (a[·%a.size]!)=((lrep z k).map (SC.re E)).toArray:=by
 subst ha;apply Array.ext
 ·simp [lrep_len]
 ·intro i h1 h2;have hi:i<k*z.length:=by simpa using h1
  have hz:0<z.length:=by
   rcases Nat.eq_zero_or_pos z.length with h|h
   ·rw [h]at hi;simp at hi
   ·exact h
  have hg:=lrep_get z k i hi;have hm:i%z.length<z.length:=Nat.mod_lt _ hz;have hl:i<(lrep z k).length:=by rw [lrep_len];exact hi
  rw [List.getElem?_eq_getElem hm,List.getElem?_eq_getElem hl]at hg;have hg':=Option.some.inj hg;simp only [Array.getElem_map,Array.getElem_range,List.getElem_toArray,List.getElem_map,hg'];simp [hm]
theorem ef_buildSlice(h:Sd C m S n w0 E w){t len:Nat}{ps:Array (Nat×Operand)}{r:Option SV×Hs}(hv:wBuildSlice C m S t len ps=some r):Efx C S n w0 E w ⟨d,.buildSlice t len ps,ty,pos,after,gd⟩ r:=by
 obtain⟨e,h1,hv⟩:=aab hv;obtain⟨sz,h2,hv⟩:=aab hv;obtain⟨h3,hv⟩:=aac hv;obtain⟨z,h4,hv⟩:=aab hv;obtain⟨h5,hv⟩:=aac hv;obtain⟨l,h6,hv⟩:=aab hv;obtain⟨cs,h7,hv⟩:=aab hv;cases hv
 rw [aaj]at h3;rw [aak,abm]at h5;obtain⟨zv,h8,h9,h10⟩:=ajl h4 E S.H.nx w;obtain⟨h11,h12⟩:=evParts_ok h h6;obtain⟨h13,h14,h15⟩:=fill_ok (E:=E) (fun i=>some (i*sz,sz)) S.H.nx l (lrep z len) cs h12 (lrep_mem h10 len) h7;have hparts:(ps.map fun p=>(p.1,evn n (rF E S.F) p.2)).toList=l.map fun p=>(p.1,p.2.re E):=by rw [<-h11];simp
 refine⟨_,_,ahf E _ (w.heap.size,0),Nat.le_succ _,inv_blk h.inv h15,zad _, ?_⟩
 have h16:¬len*sz>2^24:=by have h3':len*sz<=100000:=h3;omega
 have hmk:∀a:Array Value,(len*sz≠0->a=(z.map (SC.re E)).toArray)->(Array.range (len*sz)).map (a[·%a.size]!)=((lrep z len).map (SC.re E)).toArray:=by
  intro a ha;by_cases h0:len*sz=0
  ·have hl:(lrep z len).length=0:=by rw [lrep_len,h5,h0]
   have:lrep z len=[]:=zaA hl
   rw [h0,this];simp
  ·rw [<-h5];exact made_eq (ha h0)
 by_cases h0:len*sz=0
 ·have hm:=hmk #[] (fun h=>absurd h0 h);simp only [execOp,Instr.buildSlice,Sem.run_bind,run_underlying (adc h1),Result.andThen_ok,afp h2 w];rw [if_neg h16,if_pos h0];simp only [Sem.run_bind,Sem.run_pure,Result.andThen_ok];rw [hparts,hm,h13];simp [newRow,ade,SV.re,SC.re,Cp.re,abu]
 ·have hm:=hmk zv.cells (fun _=>h9);simp only [execOp,Instr.buildSlice,Sem.run_bind,run_underlying (adc h1),Result.andThen_ok,afp h2 w];rw [if_neg h16,if_neg h0];simp only [Sem.run_bind,h8,Sem.run_pure,Result.andThen_ok];rw [hparts,hm,h13];simp [newRow,ade,SV.re,SC.re,Cp.re,abu]
theorem ef_make(h:Sd C m S n w0 E w){t:Nat}{x y:Operand}{r:Option SV×Hs}(hv:wMake C m S t x y=some r):Efx C S n w0 E w ⟨d,.makeSlice t x y,ty,pos,after,gd⟩ r:=by
 obtain⟨e,h1,hv⟩:=aab hv;obtain⟨l,h2,hv⟩:=aab hv;obtain⟨c,h3,hv⟩:=aab hv;obtain⟨i,h4,hv⟩:=aab hv;obtain⟨h5,hv⟩:=aac hv;obtain⟨h6,hv⟩:=aac hv;obtain⟨h7,hv⟩:=aac hv;obtain⟨z,h8,hv⟩:=aab hv;obtain⟨h9,hv⟩:=aac hv;cases hv
 rw [aaj]at h5 h6 h7;rw [aak,abm]at h9;obtain⟨q,hl⟩:=evN_ok h h2;obtain⟨q',hc⟩:=evN_ok h h3;obtain⟨zv,h10,h11,h12⟩:=ajl h8 E S.H.nx w;have hz:i.zero=some zv:=by
  simp only [zeroValue,typeInfo,Sem.run_bind]at h10;have hp:(program).run C.P w=.ok C.P w:=rfl;rw [hp]at h10;simp only [Result.andThen_ok,h4]at h10;cases hq:i.zero with
  |none=>simp [hq,unsupported]at h10
  |some u=>simp [hq]at h10;rw [h10]
 have h6':c*i.bytes<=1000000:=h6;have h7':c<=1000000:=h7;have hb:(i.bytes:Int)*(c:Int)<=281474976710656:=by
  have:((c*i.bytes:Nat):Int)<=1000000:=by omega
  rw [Int.natCast_mul,Int.mul_comm]at this;omega
 have hr:=run_make (P:=C.P) w t e i zv (adc h1) h4 hz q q' (l:Int) (c:Int) (by omega) (by omega) hb (by omega);refine⟨_,_,ahf E _ (w.heap.size,0),Nat.le_succ _,inv_blk h.inv (lrep_mem h12 c),zad _, ?_⟩
 have hm:madeCells zv.cells (c*i.size)=((lrep z c).map (SC.re E)).toArray:=by rw [<-h9];exact made_eq h11
 simp only [zaq,hm]at hr;simp only [execOp,hl,hc,Sem.run_bind,hr,Result.andThen_ok,Sem.run_pure,ade,SV.re,SC.re,Cp.re,abu]
theorem ajs(b:Nat)(t:TypeId)(fz:Nat×Nat):∀(vs:List Value) (o:Nat) (cur:List Value) (w:World),w.heap[b]? =some (.cells cur.toArray t fz)->o+vs.length<=cur.length->
  (w.setCells b o vs).heap[b]? =some (.cells (cur.take o++vs++cur.drop (o+vs.length)).toArray t fz)/\(∀j,j≠b->(w.setCells b o vs).heap[j]? =w.heap[j]?)/\(w.setCells b o vs).heap.size=w.heap.size/\
   (w.setCells b o vs).os=w.os/\(w.setCells b o vs).tape=w.tape/\(w.setCells b o vs).output=w.output
 |[],o,cur,w,h,hl=>by
  refine⟨?_,fun _ _=>rfl,rfl,rfl,rfl,rfl⟩
  show w.heap[b]? =_;rw [h];simp
 |v::vs,o,cur,w,h,hl=>by
  simp only [zaf]at hl;have h1:(w.setCell ⟨b,o,none⟩ v).heap[b]? =some (.cells (cur.set o v).toArray t fz):=by
   simp [World.setCell,Array.getElem?_modify,h]
  obtain⟨h2,h3,h4,h5,h6,h7⟩:=ajs b t fz vs (o+1) (cur.set o v) (w.setCell ⟨b,o,none⟩ v) h1 (by simp;omega);refine⟨?_,fun j hj=> ?_, ?_,h5,h6,h7⟩
  ·show((w.setCell ⟨b,o,none⟩ v).setCells b (o+1) vs).heap[b]? =_
   rw [h2];congr 3
   have e1:(cur.set o v).take (o+1)=cur.take o++[v]:=by
    rw [zbk,if_pos (by omega)];have hl:(cur.take o).length=o:=by simp;omega
    rw [List.take_append,hl,zaG (by rw [hl];omega),show o+1-o=1 by omega];simp
   have e2:(cur.set o v).drop (o+1+vs.length)=cur.drop (o+(vs.length+1)):=by
    rw [List.drop_set_of_lt (by omega)];congr 1;omega
   rw [e1,e2];simp
  ·show((w.setCell ⟨b,o,none⟩ v).setCells b (o+1) vs).heap[j]? =_
   rw [h3 j hj];exact RowKit.Below.heap_setCell w ⟨b,o,none⟩ v j hj
  ·show((w.setCell ⟨b,o,none⟩ v).setCells b (o+1) vs).heap.size=_
   rw [h4];simp [World.setCell]
theorem take_splice{α:Type}(cl vv:List α)(off xl:Nat)(h1:off+vv.length<=xl)(h2:xl<=cl.length):
  (cl.take off++vv++cl.drop (off+vv.length)).take xl=(cl.take xl).take off++vv++(cl.take xl).drop (off+vv.length):=by
 have e1:(cl.take xl).take off=cl.take off:=by rw [List.take_take,zaK (by omega)]
 have e2:(cl.take xl).drop (off+vv.length)=(cl.drop (off+vv.length)).take (xl-(off+vv.length)):=by rw [List.drop_take]
 rw [e1,e2,List.take_append,zaG (l:=cl.take off++vv) (by simp;omega)];congr 2
 simp;omega
theorem inv_store(h:Inv w0 E H w){i t off:Nat}{md:Mo}{xs vs:List SC}(hb:H.t.get i=some (.cl t md xs))(hl:off+vs.length<=xs.length)(hv:∀x∈vs,x.ok H.nx):
  ∃w',(storeCells ⟨(E i).1,off,none⟩ (vs.map (SC.re E))).run C.P w=.ok () w'/\Inv w0 E (H.upd i (.cl t md (lput xs off vs))) w':=by
 obtain⟨cur,t',fz,h1,h2,h3,h4,h5⟩:=h.cells hb;have hcur:cur=cur.toList.toArray:=by simp
 rw [hcur]at h1;have hl2:off+(vs.map (SC.re E)).length<=cur.toList.length:=by simp;omega
 obtain⟨h6,h7,h8,h9,h10,h11⟩:=ajs (E i).1 t' fz (vs.map (SC.re E)) off cur.toList w h1 hl2;have hst:=run_storeCells_cells (P:=C.P) (E i).1 off (vs.map (SC.re E)) 0 w (fun j hj=>by
   simp only [World.cell?,h1];simp at hj⊢
   omega) (fun j hj=>by
   simp only [World.frozen?,h1];rcases Mo.free h5 with rfl|hf
   ·simp
   ·have:¬fz.1<=off+j:=by simp at hj;omega
    simp [this]) (scs_one E vs)
 refine⟨_,hst, ?_⟩
 simp only [Nat.add_zero];have hi:=h.lt i _ hb;refine h.upd hi (show∀x∈lput xs off vs,x.ok H.nx from lput_mem xs off vs hl _ (h.ok i _ hb) hv) ?_;refine h.hp.change i _ _ (h.at hb) h9 h10 h11 (by rw [h8];exact zab _) (fun j _ hne=>h7 j (fun e=>hne (by rw [e];rfl))) ?_ (fun b hb'=> ?_)
 ·have e1:(lput xs off vs).map (SC.re E)=(xs.map (SC.re E)).take off++vs.map (SC.re E)++(xs.map (SC.re E)).drop (off+vs.length):=map_lput _ _ _ _ hl;have hll:(lput xs off vs).length=xs.length:=lput_len _ _ _ hl;have e2:(List.take off cur.toList++List.map (SC.re E) vs++zaE (off+(List.map (SC.re E) vs).length) cur.toList).toArray.size=cur.size:=by simp;omega
  have q1:((lput xs off vs).map (SC.re E)).length<=(List.take off cur.toList++List.map (SC.re E) vs++zaE (off+(List.map (SC.re E) vs).length) cur.toList).toArray.size:=by rw [e2,zax,hll];exact h3
  have q2:(List.take off cur.toList++List.map (SC.re E) vs++zaE (off+(List.map (SC.re E) vs).length) cur.toList).toArray.toList.take ((lput xs off vs).map (SC.re E)).length=(lput xs off vs).map (SC.re E):=by
   rw [e1,<-h4,zae,zae];have hx:xs.length<=cur.toList.length:=by simpa using h3
   have hn:(List.take off (List.take xs.length cur.toList)).length+(List.map (SC.re E) vs).length+(zaE (off+vs.length) (List.take xs.length cur.toList)).length=xs.length:=by simp;omega
   rw [hn]
   have:=take_splice cur.toList (vs.map (SC.re E)) off xs.length (by simpa using hl) hx
   simpa using this
  have q3:md.ok (E i).2 ((lput xs off vs).map (SC.re E)).length (List.take off cur.toList++List.map (SC.re E) vs++zaE (off+(List.map (SC.re E) vs).length) cur.toList).toArray.size fz:=by rw [e2,zax,hll];exact h5
  exact⟨_,t',fz,h6,h2,q1,q2,q3⟩
 ·cases hb'
  have hlt:=(Array.getElem?_eq_some_iff.1 h1).1;exact⟨.inl rfl,by rw [h8];exact hlt⟩
theorem ef_store(h:Sd C m S n w0 E w){t:Nat}{x y:Operand}{r:Option SV×Hs}(hv:wStore C m S t x y=some r):Efx C S n w0 E w ⟨d,.store t x y,ty,pos,after,gd⟩ r:=by
 obtain⟨v,h1,hv⟩:=aab hv;obtain⟨p,h2,hv⟩:=aab hv;obtain⟨b,h3,hv⟩:=aab hv;obtain⟨q,h4,hv⟩:=aab hv;obtain⟨u,h5,hv⟩:=aab hv;obtain⟨vs,h6,hv⟩:=aab hv;obtain⟨z,h7,hv⟩:=aab hv;obtain⟨h8,hv⟩:=aac hv;obtain⟨h9,hv⟩:=aac hv;cases hv
 rw [aak,abm]at h8;rw [aaj,abm]at h9;have h9':p.2+z<=q.2.2.length:=h9;obtain⟨hx,_⟩:=ach h h1;obtain⟨hy,hok⟩:=aiz h h5;obtain rfl:=asP_ok h2;rw [hbC_ok h4]at h3;obtain⟨w',h10,h11⟩:=inv_store (C:=C) (vs:=vs) (off:=p.2) h.inv h3 (by omega) (SV.cells_ok h6 hok);have hx':evn n (rF E S.F) x=.pointer (some ⟨(E p.1).1,p.2,none⟩):=hx;have hc:=SV.cells_r (E:=E) h6;have hz:(sizeOf t).run C.P w=.ok vs.length w:=by rw [h8];exact afp h7 w
 refine⟨E,w',Ag.refl _ _,zab _,h11,trivial, ?_⟩
 simp [execOp,hx',hy,Instr.storeAt,Instr.sureAddr,storeVar,hz,hc,h10,ade]
theorem byC_re:∀(l x:Nat) (E:En),(byC l x).map (SC.re E)=(dec l x).map bt
 |0,x,E=>rfl
 |l+1,x,E=>by
  have ih:=byC_re l (x/256) E
  show(SC.i .u8 (x%256)).re E::(byC l (x/256)).map (SC.re E)=_
  rw [ih];have hlt:x%256<256:=Nat.mod_lt _ (by decide);have e:(SC.i .u8 (x%256)).re E=bt (zaQ (x%256)):=by
   show Value.int .u8 (IntKind.u8.wrap ((x%256:Nat):Int))=Value.int .u8 ((zaQ (x%256)).toNat:Int);rw [bytes_lt _ hlt,wrap_small (show x%256<256 from hlt)]
  rw [e];rfl
theorem byC_len(l x:Nat):(byC l x).length=l:=by
 have:=congrArg List.length (byC_re l x (fun _=>(0,0)))
 simpa [aby] using this
theorem byC_ok:∀(l x k:Nat),∀y∈byC l x,y.ok k
 |0,x,k,y,hy=>by cases hy
 |l+1,x,k,y,hy=>by
  rcases List.mem_cons.1 (show y∈SC.i .u8 (x%256)::byC l (x/256)from hy)with rfl|hy
  ·trivial
  ·exact byC_ok l _ k y hy
theorem ef_bytes(h:Sd C m S n w0 E w){s t:Nat}{x:Operand}{r:Option SV×Hs}(hv:wBytes C m S s t x=some r):Efx C S n w0 E w ⟨d,.convert s t x,ty,pos,after,gd⟩ r:=by
 obtain⟨v,h1,hv⟩:=aab hv;obtain⟨q,h2,hv⟩:=aab hv;obtain⟨_,h3,hv⟩:=aab hv;obtain⟨e,h4,hv⟩:=aab hv;obtain⟨_,h5,hv⟩:=aab hv;cases hv
 have hx:=(ach h h1).1;obtain rfl:=asS_ok h2;have hs:=ajo h3;have ht:=adc h4;have he:=isU8_ok h5
 let l:=dec q.1 q.2
 let cap:=Question.cut (.appendCap l.length 0 e) (w.tape w.drawn (.appendCap l.length 0 e))
 have hcap:l.length<=cap:=by show _<=_+_;omega
 have hll:l.length=q.1:=aby q.1 q.2
 let cells:Array Value:=(l.toArray.map fun b=>.int .u8 b.toNat)++Array.replicate (cap-l.length) (.int .u8 0)
 have hcs:cells.size=cap:=by simp [cells];omega
 let w1:World:={w with drawn:=w.drawn+1,heap:=w.heap.push (.cells cells e (cap,cap+1))}
 have hrun:(execOp (evn n (rF E S.F)) (⟨d,.convert s t x,ty,pos,after,gd⟩:Oper)).run C.P w=.ok (.value (.slice (some ⟨w.heap.size,0,none⟩) l.length cap)) w1:=by
  have e1:(convert s t (str l)).run C.P w=(Conv.stringToBytes e ⟨l.toArray⟩).run C.P w:=by
   simp [convert,str,run_underlying hs,run_underlying ht,run_underlying he]
  have e2:(Conv.stringToBytes e ⟨l.toArray⟩).run C.P w=.ok (.slice (some ⟨w.heap.size,0,none⟩) l.length cap) w1:=by
   have hsz:(⟨l.toArray⟩:ByteArray).size=l.length:=rfl;unfold Conv.stringToBytes markStringish;simp only [Sem.run_bind,hsz];show Result.andThen (Result.ok cap {w with drawn:=w.drawn+1}) _=_;simp only [Result.andThen_ok,newRow,Sem.run_bind,run_newObj,Sem.run_pure];show Result.andThen (Result.andThen (Result.ok (World.shape? {w with drawn:=w.drawn+1,heap:=w.heap.push (.cells cells e (0,0))} w.heap.size) _) _) _=_;have hsh:World.shape? {w with drawn:=w.drawn+1,heap:=w.heap.push (.cells cells e (0,0))} w.heap.size=some (e,cap):=by
    simp [World.shape?,hcs]
   rw [hsh];simp only [Result.andThen_ok];show Result.andThen (Result.ok () (World.freeze {w with drawn:=w.drawn+1,heap:=w.heap.push (.cells cells e (0,0))} ⟨w.heap.size,cap,none⟩ 1)) _=_;simp only [Result.andThen_ok,Sem.run_pure,World.freeze];congr 1
   simp only [Nat.one_ne_zero,if_false];refine congrArg (fun h=>({w with drawn:=w.drawn+1,heap:=h}:World)) ?_;apply Array.ext
   ·simp
   ·intro i h1 h2;have hlt:i<w.heap.size+1:=by simpa using h2
    rw [Array.getElem_modify];by_cases hi:w.heap.size=i
    ·subst hi;simp
    ·have hl2:i<w.heap.size:=by omega
     simp [hi,Array.getElem_push,hl2]
  have hx':evn n (rF E S.F) x=str l:=hx;simp [execOp,hx',e1,e2]
 refine⟨_,w1,ahf E _ (w.heap.size,cap),Nat.le_succ _, ?_,zad _, ?_⟩
 ·refine inv_new (o:=.cells cells e (cap,cap+1)) h.inv rfl (byC_ok _ _ _) ?_ ?_ rfl
  ·simp only [resOf,cres,abu]
  ·simp only [resOf,cres,abu];rw [byC_re];have hlm:((dec q.1 q.2).map bt).length=l.length:=by simp [l]
   refine⟨cells,e,(cap,cap+1),rfl,.inl trivial,by rw [hlm,hcs];exact hcap, ?_, ?_⟩
   ·simp [cells,bt,l]
   ·rw [hlm,hcs];exact⟨hcap,zab _,zab _⟩
 ·rw [hrun];simp only [ade,SV.re,SC.re,Cp.re,abu,hll,Nat.sub_zero]
theorem srcC_ok(h:Sd C m S n w0 E w){sz k:Nat}{vs:List SC}{x:Operand}(hv:srcC m S sz x=some (k,vs))(hsz:∀l y,evC m S x=some (.s l y)->sz=1):
  vs.length=k*sz/\(∀y∈vs,y.ok S.H.nx)/\(∀w':World,(Builtin.lenOf (evn n (rF E S.F) x)).run C.P w'=.ok k w')/\
   ∀(w':World) (k':Nat),(∀a,w'.cell? a=w.cell? a)->k'<=k->(Builtin.firstCells sz k' (evn n (rF E S.F) x)).run C.P w'=.ok ((vs.take (k'*sz)).map (SC.re E)).toArray w':=by
 obtain⟨v,h1,hv⟩:=aab hv;obtain⟨hx,hok⟩:=ach h h1;rw [hx];cases v with
 |ns=>
  have e:(0,([]:List SC))=(k,vs):=Option.some.inj hv;cases e
  refine⟨by simp,by simp,fun w'=>rfl,fun w' k' _ hk=> ?_⟩
  simp [SC.re,Builtin.firstCells]
 |z i base dd off=>
  have e:(0,([]:List SC))=(k,vs):=Option.some.inj hv;cases e
  refine⟨by simp,by simp,fun w'=>rfl,fun w' k' _ hk=> ?_⟩
  obtain rfl:k'=0:=by omega
  have:=run_loadCells_list (P:=C.P) w' ⟨(E i).1,if(E i).2-off=0 then base else base+dd,none⟩ [] (fun j u hj=>by cases hj)
  simpa [SC.re,Builtin.firstCells] using this
 |s l y=>
  have e:(l,byC l y)=(k,vs):=Option.some.inj hv;cases e
  have h1':=hsz k y h1;subst h1';refine⟨by rw [byC_len];omega,byC_ok k y _,fun w'=> ?_,fun w' k' _ hk=> ?_⟩
  ·show Sem.run C.P (pure (⟨(dec k y).toArray⟩:ByteArray).size) w'=_
   have:(⟨(dec k y).toArray⟩:ByteArray).size=k:=aby k y
   rw [this];rfl
  ·show Sem.run C.P (pure (((⟨(dec k y).toArray⟩:ByteArray).extract 0 k').data.map fun b=>Value.int .u8 b.toNat)) w'=_;have e2:((⟨(dec k y).toArray⟩:ByteArray).extract 0 k').data=((dec k y).take k').toArray:=by
    rw [ByteArray.data_extract];simp [List.extract_eq_take_drop]
   rw [e2,Nat.mul_one,List.map_take,byC_re];simp only [Sem.run_pure];congr 1
   simp [bt,List.map_take]
   rfl
 |sl i base nn c=>
  obtain⟨xs,h2,hv⟩:=aab (show(ob (cellsOf S i) fun xs=>bi (zam (base+nn*sz) (aid xs)) (some (nn,ltake (ldrop xs base) (nn*sz))) none)=some (k,vs)from hv);obtain⟨h3,hv⟩:=aac hv;cases hv
  rw [aaj,abm]at h3;rw [aia,ldrop_eq];obtain⟨h4,h5⟩:=cellsOf_okk h h2;refine⟨by simp;omega,fun y hy=>h5 y (List.mem_of_mem_drop (zaL hy)),fun w'=>rfl,fun w' k' hw' hk=> ?_⟩
  have hkk:k'*sz<=k*sz:=zak _ hk;have hlen:((((xs.drop base).take (k*sz)).take (k'*sz)).map (SC.re E)).length=k'*sz:=by simp;omega
  have:=run_loadCells_list (P:=C.P) w' ⟨(E i).1,base,none⟩ ((((xs.drop base).take (k*sz)).take (k'*sz)).map (SC.re E)) fun j u hj=>by
   rw [abb,hw'];rw [List.getElem?_map]at hj;obtain⟨y,hy,rfl⟩:=Option.map_eq_some_iff.1 hj;rw [List.getElem?_take]at hy;split at hy
   ·rw [List.getElem?_take]at hy;split at hy
    ·rw [List.getElem?_drop]at hy;exact h4 _ y hy
    ·cases hy
   ·cases hy
  rw [hlen]at this;exact this
 |_=>cases hv
theorem isSS_ok{du:TypeDesc}(h:isSS du=true):(∃e,du=.slice e)\/du=.string:=by
 cases du<;>first|exact .inl ⟨_,rfl⟩|exact .inr rfl|cases h
section
variable {t u e k cap : Nat} {inf : TypeInfo} {a : Option Addr} {x : Value} {news : List Value}
theorem app_fits(ht:C.P.underlying t=some (.slice e))(hu:(∃e',C.P.underlying u=some (.slice e'))\/C.P.underlying u=some .string)(hi:C.P.info? e=some inf){A:Addr}{nn:Nat}(hlen:(Builtin.lenOf x).run C.P w=.ok k w)(hf:(Builtin.firstCells inf.size k x).run C.P w=.ok news.toArray w)(hroom:nn+k<=cap){w':World}
  (hst:(storeCells (A.add (nn*inf.size)) news).run C.P w=.ok () w'):
  (Builtin.append_ #[t,u] ty #[.slice (some A) nn cap,x]).run C.P w=.ok (.slice (some A) (nn+k) cap) w':=by
 rcases hu with⟨e',hu⟩|hu<;>simp [Builtin.append_,run_underlying ht,run_underlying hu,sizeOf,typeInfo,hi,hlen,hroom,hf,hst]
theorem wrapN{k:Nat}(h:k<=1000000000):IntKind.i64.wrap (k:Int)=(k:Int):=wrap64_id (by omega) (by omega)
theorem app_fitsZ{q:IntKind}{z:Value}(ht:C.P.underlying t=some (.slice e))(hu:C.P.underlying u=some (.int q))(hi:C.P.info? e=some inf)(hz:inf.zero=some z){A:Addr}{nn:Nat}(hb0:inf.bytes≠0)(hb:k*inf.bytes<=1000000000)(hk0:k*inf.size≠0)(hn:news.toArray=Builtin.zeroCells z.cells k)(hroom:nn+k<=cap){w':World}
  (hst:(storeCells (A.add (nn*inf.size)) news).run C.P w=.ok () w'):
  (Builtin.append_ #[t,u] ty #[.slice (some A) nn cap,.int .i64 (k:Int)]).run C.P w=.ok (.slice (some A) (nn+k) cap) w':=by
 have hle:k<=k*inf.bytes:=zbl _ (by omega);have h1:=wrapN (k:=k) (by omega);have h2:¬((k:Int)<0):=by omega
 have h3:¬(281474976710656<(k:Int)*(inf.bytes:Int)):=by
  have:(k:Int)*(inf.bytes:Int)=((k*inf.bytes:Nat):Int):=by simp
  rw [this];omega
 have h5:(Builtin.zeroCells z.cells k).toList=news:=by rw [<-hn]
 have hk1:¬(k=0\/inf.size=0):=by
  intro h;apply hk0
  rcases h with h|h<;>simp [h]
 simp [Builtin.append_,run_underlying ht,run_underlying hu,sizeOf,typeInfo,zeroValue,hi,hz,asInt,asIntOf,h1,h2,h3,hk0,hroom,h5,hst]
theorem app_nil0(ht:C.P.underlying t=some (.slice e))(hu:(∃e',C.P.underlying u=some (.slice e'))\/C.P.underlying u=some .string)(hi:C.P.info? e=some inf)(hlen:(Builtin.lenOf x).run C.P w=.ok 0 w)(hf:(Builtin.firstCells inf.size 0 x).run C.P w=.ok #[] w):
  (Builtin.append_ #[t,u] ty #[.slice none 0 0,x]).run C.P w=.ok (.slice none 0 0) w:=by
 rcases hu with⟨e',hu⟩|hu<;>simp [Builtin.append_,run_underlying ht,run_underlying hu,sizeOf,typeInfo,hi,hlen,hf]
theorem app_grows{z:Value}{olds:List Value}{nn:Nat}(ht:C.P.underlying t=some (.slice e))(hu:(∃e',C.P.underlying u=some (.slice e'))\/C.P.underlying u=some .string)(hi:C.P.info? e=some inf)(hz:inf.zero=some z)(hlen:(Builtin.lenOf x).run C.P w=.ok k w)(hf:(Builtin.firstCells inf.size k x).run C.P w.drew=.ok news.toArray w.drew)
  (hfo:(Builtin.firstCells inf.size nn (.slice a nn cap)).run C.P w.drew=.ok olds.toArray w.drew) (hg:cap<nn+k) (hb:(nn+k)*inf.bytes<=1000000000) (hb0:inf.bytes≠0):
  (Builtin.append_ #[t,u] ty #[.slice a nn cap,x]).run C.P w=
   .ok (.slice (some ⟨w.heap.size,0,none⟩) (nn+k) (grownCap w (nn+k) cap e)) (w.drew.alloc (.cells (olds.toArray++news.toArray++Builtin.zeroCells z.cells (grownCap w (nn+k) cap e-(nn+k))) e)):=by
 have hle:nn+k<=(nn+k)*inf.bytes:=zbl _ (by omega);have hn:¬(nn+k<=cap):=by omega
 have h63':¬(9223372036854775807<((nn:Int)+(k:Int))):=by omega
 have h48':¬(281474976710656<Builtin.nextslicecap (nn+k) cap*inf.bytes):=by have:=growslice_fits (bytes:=inf.bytes) hg (by omega);omega
 rcases hu with⟨e',hu⟩|hu
 ·simp [Builtin.append_,run_underlying ht,run_underlying hu,sizeOf,typeInfo,zeroValue,hi,hz,hlen,hn,h63',h48',Question.forced,hf,hfo,newRow,grownCap]
  congr 2
  apply Array.ext'
  simp [zaC]
 ·simp [Builtin.append_,run_underlying ht,run_underlying hu,sizeOf,typeInfo,zeroValue,hi,hz,hlen,hn,h63',h48',Question.forced,hf,hfo,newRow,grownCap]
  congr 2
  apply Array.ext'
  simp [zaC]
theorem app_growsZ{q:IntKind}{z:Value}{olds:List Value}{nn:Nat}(ht:C.P.underlying t=some (.slice e))(hu:C.P.underlying u=some (.int q))(hi:C.P.info? e=some inf)(hz:inf.zero=some z)(hk0:k*inf.size≠0)(hn:news.toArray=Builtin.zeroCells z.cells k)
  (hfo:(Builtin.firstCells inf.size nn (.slice a nn cap)).run C.P w.drew=.ok olds.toArray w.drew) (hg:cap<nn+k) (hb:(nn+k)*inf.bytes<=1000000000) (hb0:inf.bytes≠0):
  (Builtin.append_ #[t,u] ty #[.slice a nn cap,.int .i64 (k:Int)]).run C.P w=
   .ok (.slice (some ⟨w.heap.size,0,none⟩) (nn+k) (grownCap w (nn+k) cap e)) (w.drew.alloc (.cells (olds.toArray++news.toArray++Builtin.zeroCells z.cells (grownCap w (nn+k) cap e-(nn+k))) e)):=by
 have hle:nn+k<=(nn+k)*inf.bytes:=zbl _ (by omega);have hle2:k*inf.bytes<=(nn+k)*inf.bytes:=zak _ (by omega);have hnn:¬(nn+k<=cap):=by omega
 have h63':¬(9223372036854775807<((nn:Int)+(k:Int))):=by omega
 have h48':¬(281474976710656<Builtin.nextslicecap (nn+k) cap*inf.bytes):=by have:=growslice_fits (bytes:=inf.bytes) hg (by omega);omega
 have h1:=wrapN (k:=k) (by omega);have h2:¬((k:Int)<0):=by omega
 have h3:¬(281474976710656<(k:Int)*(inf.bytes:Int)):=by
  have:(k:Int)*(inf.bytes:Int)=((k*inf.bytes:Nat):Int):=by simp
  rw [this];omega
 have hk1:¬(k=0\/inf.size=0):=by
  intro h;apply hk0
  rcases h with h|h<;>simp [h]
 rw [hn];simp [Builtin.append_,run_underlying ht,run_underlying hu,sizeOf,typeInfo,zeroValue,hi,hz,asInt,asIntOf,h1,h2,h3,hk0,hnn,h63',h48',Question.forced,hfo,newRow,grownCap]
end
theorem hp_gn{L:List Res}(h:Hp w0 [] L w):Hp w0 [] (⟨none,fun _=>True⟩::L) w:=by
 refine⟨h.os,h.tape,h.output,h.size,h.below,fun r hr=> ?_, ?_⟩
 ·rcases List.mem_cons.1 hr with rfl|hr
  ·exact⟨trivial,fun b hb=>by cases hb⟩
  ·exact h.res r hr
 ·exact List.Pairwise.cons (fun r _ b hb=>by cases hb) h.sep
theorem set_perm{α:Type}(x:α):∀(L:List α) (i:Nat),i<L.length->(L.set i x).Perm (x::L.eraseIdx i)
 |[],i,h=>by simp at h
 |y::L,0,h=>by simp
 |y::L,i+1,h=>by
  simp only [List.set_cons_succ,List.eraseIdx_cons_succ];exact(List.Perm.cons y (set_perm x L i (by simpa using h))).trans (List.Perm.swap x y _)
theorem ahc(E:En)(H:Hs):(afe E H).length=H.nx:=by simp [afe]
theorem inv_gone(h:Inv w0 E H w){i:Nat}(hi:i<H.nx):Inv w0 E (H.upd i .gn) w:=by
 refine h.upd hi trivial ?_;refine Hp.perm (hp_gn (h.hp.sub (List.eraseIdx_sublist _ i))) ?_;exact(set_perm _ _ i (by rw [ahc];exact hi)).symm
theorem row_ok{E:En}{b cap e sz mm:Nat}{xs:List SC}{zs:Array Value}(hl:xs.length=mm*sz)(hm:mm<=cap)(hc:cap<=maxLen)(hz:zs.size=(cap-mm)*sz):
  (cres b cap e (.rw sz mm) (xs.map (SC.re E))).ok (some (.cells ((xs.map (SC.re E)).toArray++zs) e)):=by
 have hs:((xs.map (SC.re E)).toArray++zs).size=cap*sz:=by
  simp only [Array.size_append,List.size_toArray,zax,hl,hz];rw [<-zaX];congr 1;omega
 refine⟨_,e,(0,0),rfl,.inr rfl, ?_, ?_, ?_⟩
 ·rw [hs,zax,hl];exact zak _ hm
 ·simp
 ·exact⟨by rw [zax,hl],hm,hc,hs,rfl⟩
theorem inv_row(h:Inv w0 E H w){cap e sz mm:Nat}{xs:List SC}{zs:Array Value}(hx:∀x∈xs,x.ok H.nx)(hl:xs.length=mm*sz)(hm:mm<=cap)(hc:cap<=maxLen)(hz:zs.size=(cap-mm)*sz):
  Inv w0 (eat E H.nx (w.heap.size,cap)) (H.add (.cl e (.rw sz mm) xs)) (w.drew.alloc (.cells ((xs.map (SC.re E)).toArray++zs) e)):=by
 refine inv_new (o:=.cells ((xs.map (SC.re E)).toArray++zs) e) h rfl (okUp hx) ?_ ?_ rfl
 ·simp only [resOf,cres,abu]
 ·simp only [resOf,abu];rw [scs_ext (ahf E H.nx _) hx];exact row_ok hl hm hc hz
def AppOk(C:Cx)(H:Hs)(w0:World)(E:En)(w:World)(s:Sem Value)(r:Option SV×Hs):Prop:=
 ∃v E' w',r.1=some v/\Ag H.nx E E'/\H.nx<=r.2.nx/\Inv w0 E' r.2 w'/\v.ok r.2.nx/\s.run C.P w=.ok (v.re E') w'
section
variable {t u e k : Nat} {inf : TypeInfo} {x : Value} {vs : List SC} {z : Value} {r : Option SV × Hs}
structure AppF (C:Cx) (w:World) (E:En) (H:Hs) (t u e k:Nat) (inf:TypeInfo) (x:Value) (vs:List SC) (z:Value):Prop where
 hz:inf.zero=some z
 hzs:z.cells.size=inf.size
 hb0:inf.bytes≠0
 hl:vs.length=k*inf.size
 hok:∀y∈vs,y.ok H.nx
 fits:∀{ty:TypeId} {A:Addr} {nn cap:Nat} {w':World},nn+k<=cap->(nn+k)*inf.bytes<=1000000000->(storeCells (A.add (nn*inf.size)) (vs.map (SC.re E))).run C.P w=.ok () w'->(Builtin.append_ #[t,u] ty #[.slice (some A) nn cap,x]).run C.P w=.ok (.slice (some A) (nn+k) cap) w'
 grows:∀{ty:TypeId} {a:Option Addr} {nn cap:Nat} {olds:List Value},(Builtin.firstCells inf.size nn (.slice a nn cap)).run C.P w.drew=.ok olds.toArray w.drew->cap<nn+k->(nn+k)*inf.bytes<=1000000000->(Builtin.append_ #[t,u] ty #[.slice a nn cap,x]).run C.P w=
   .ok (.slice (some ⟨w.heap.size,0,none⟩) (nn+k) (grownCap w (nn+k) cap e)) (w.drew.alloc (.cells (olds.toArray++(vs.map (SC.re E)).toArray++Builtin.zeroCells z.cells (grownCap w (nn+k) cap e-(nn+k))) e))
 nil0:∀{ty:TypeId},k=0->(Builtin.append_ #[t,u] ty #[.slice none 0 0,x]).run C.P w=.ok (.slice none 0 0) w
theorem zc_size(A:AppF C w E H t u e k inf x vs z)(j:Nat):(Builtin.zeroCells z.cells j).size=j*inf.size:=by rw [size_zeroCells,A.hzs]
theorem app_new(h:Inv w0 E H w)(A:AppF C w E H t u e k inf x vs z){a:Option Addr}{nn cap:Nat}{olds:List SC}(hfo:(Builtin.firstCells inf.size nn (.slice a nn cap)).run C.P w.drew=.ok (olds.map (SC.re E)).toArray w.drew)(hol:olds.length=nn*inf.size)
  (hoo:∀y∈olds,y.ok H.nx) (hg:cap<nn+k) (hb:(nn+k)*inf.bytes<=1000000000) {H':Hs} (hn:H'.nx=H.nx) (h':Inv w0 E H' w) (hr:appNew H' e inf.size (nn+k) (olds++vs)=some r):
  AppOk C H w0 E w (Builtin.append_ #[t,u] ty #[.slice a nn cap,x]) r:=by
 have er:(some (SV.c (.sl H'.nx 0 (nn+k) (.r 0))),H'.add (.cl e (.rw inf.size (nn+k)) (olds++vs)))=r:=Option.some.inj hr;subst er;have hle:nn+k<=(nn+k)*inf.bytes:=zbl _ (Nat.pos_of_ne_zero A.hb0);have hrun:=A.grows (ty:=ty) hfo hg hb;have hge:=grownCap_ge w (nn+k) cap e;have hcm:=grownCap_le_maxLen w (nn+k) cap e (by unfold maxLen;omega);have hxs:∀y∈olds++vs,y.ok H'.nx:=by
  rw [hn];intro y hy;rcases List.mem_append.1 hy with hy|hy
  ·exact hoo y hy
  ·exact A.hok y hy
 have hinv:=inv_row (e:=e) (sz:=inf.size) (mm:=nn+k) (cap:=grownCap w (nn+k) cap e) (zs:=Builtin.zeroCells z.cells (grownCap w (nn+k) cap e-(nn+k))) h' hxs (by rw [zae,hol,A.hl,zaX]) hge hcm (zc_size A _);refine⟨_,_,_,rfl, ?_, ?_,hinv, ?_, ?_⟩
 ·rw [<-hn];exact ahf E _ _
 ·show H.nx<=H'.nx+1;omega
 ·show H'.nx<H'.nx+1;omega
 ·rw [hrun];simp only [SV.re,SC.re,Cp.re,abu,Nat.sub_zero,zbc];congr 4
  simp
theorem app_nil(h:Inv w0 E H w)(A:AppF C w E H t u e k inf x vs z)(hr:appNil H e inf.size inf.bytes k vs=some r):AppOk C H w0 E w (Builtin.append_ #[t,u] ty #[.slice none 0 0,x]) r:=by
 unfold appNil at hr;rw [aaz]at hr;split at hr
 ·rename_i h0;rw [aak]at h0;subst h0;cases hr
  exact⟨_,E,w,rfl,Ag.refl _ _,zab _,h,trivial,A.nil0 rfl⟩
 ·rename_i h0;rw [aak]at h0;obtain⟨h1,hr⟩:=aac hr;rw [aaj]at h1;have hk:0<k:=Nat.pos_of_ne_zero h0
  have:=app_new (ty:=ty) (nn:=0) (cap:=0) (a:=none) (olds:=[]) h A (by simp [Builtin.firstCells]) (by simp) (by simp) (by omega) (by simpa using h1) rfl h (by simpa using hr)
  exact this
end
end
end Go.Ce
set_option linter.constructorNameAsVariable false
namespace Go.Ce
open Go.Wk
open Bool renaming eq_iff_iff -> zbb
open List renaming eq_nil_of_length_eq_zero -> zaA, length_append -> zae, length_drop -> zaI, length_map -> zax, length_take -> zac, map_append -> zbc, map_cons -> zao, mem_of_mem_take -> zaL, take_of_length_le -> zaG
open Nat renaming add_mul -> zaX, beq -> zai, ble -> zam, le_refl -> zab, le_trans -> zau, lt_succ_self -> zad, min_eq_left -> zaK, mul_le_mul_right -> zak, succ -> zaR, zero_add -> zaT
open Option renaming map_some -> zaJ, rec -> zaj
section
variable {C : Cx} {m : M} {S : T} {n : Md} {w0 w : World} {E : En} {H : Hs}
variable {d : Option Nat} {ty : TypeId} {pos : String} {after : Array Edge} {gd : Option (Nat × Bool)}
section
variable {t u e k : Nat} {inf : TypeInfo} {x : Value} {vs : List SC} {z : Value} {r : Option SV × Hs}
theorem first_cells(h:Inv w0 E H w){i t' nn cap sz:Nat}{md:Mo}{xs:List SC}(hb:H.t.get i=some (.cl t' md xs))(hl:nn*sz<=xs.length)(w':World)(hw:∀a,w'.cell? a=w.cell? a):
  (Builtin.firstCells sz nn (.slice (some ⟨(E i).1,0,none⟩) nn cap)).run C.P w'=.ok ((xs.take (nn*sz)).map (SC.re E)).toArray w':=by
 refine run_firstCells_some (P:=C.P) w' sz nn ⟨(E i).1,0,none⟩ nn cap _ (by simp;omega) fun j v hj=> ?_
 rw [hw,abb,zaT];rw [List.getElem?_map]at hj;obtain⟨y,hy,rfl⟩:=Option.map_eq_some_iff.1 hj;rw [List.getElem?_take]at hy;split at hy
 ·exact h.cell hb hy
 ·cases hy
theorem app_ex(h:Inv w0 E H w)(A:AppF C w E H t u e k inf x vs z){i nn cc:Nat}{xs:List SC}(hb:H.t.get i=some (.cl e .ex xs))(hl:nn*inf.size<=xs.length)(hby:(nn+k)*inf.bytes<=1000000000)
  (hr:appEx H e inf.size i nn cc k xs vs=some r):AppOk C H w0 E w (Builtin.append_ #[t,u] ty #[.slice (some ⟨(E i).1,0,none⟩) nn cc,x]) r:=by
 unfold appEx at hr;rw [aaz]at hr;split at hr
 ·rename_i h0;rw [aaj]at h0;obtain⟨h1,hr⟩:=aac hr;cases hr
  rw [aaj,abm]at h1;have h1':(nn+k)*inf.size<=xs.length:=h1;obtain⟨w',h2,h3⟩:=inv_store (C:=C) (off:=nn*inf.size) (vs:=vs) h hb (by rw [A.hl,<-zaX];exact h1') A.hok;have h4:=A.fits (ty:=ty) (A:=⟨(E i).1,0,none⟩) (nn:=nn) h0 hby (w':=w') (by rw [abb,zaT];exact h2);exact⟨_,E,w',rfl,Ag.refl _ _,zab _,h3,h.lt i _ hb,h4⟩
 ·rename_i h0;rw [aaj]at h0;have h0':¬nn+k<=cc:=h0;have hx:=h.ok i _ hb;refine app_new h A (olds:=xs.take (nn*inf.size)) (first_cells h hb hl w.drew fun _=>rfl) (by simp;omega) (fun y hy=>hx y (zaL hy)) (by omega) hby rfl h ?_;rw [air,aia]at hr;exact hr
theorem app_fb(h:Inv w0 E H w)(A:AppF C w E H t u e k inf x vs z){i nn cc:Nat}{xs:List SC}(hb:H.t.get i=some (.cl e .fb xs))(hl:nn*inf.size<=xs.length)(hby:(nn+k)*inf.bytes<=1000000000)
  (hr:appFb H e inf.size nn cc k xs vs=some r):AppOk C H w0 E w (Builtin.append_ #[t,u] ty #[.slice (some ⟨(E i).1,0,none⟩) nn cc,x]) r:=by
 unfold appFb at hr;rw [aaz]at hr;split at hr
 ·cases hr
 ·rename_i h0;rw [aaj]at h0;have h0':¬nn+k<=cc:=h0;have hx:=h.ok i _ hb;refine app_new h A (olds:=xs.take (nn*inf.size)) (first_cells h hb hl w.drew fun _=>rfl) (by simp;omega) (fun y hy=>hx y (zaL hy)) (by omega) hby rfl h ?_;rw [air,aia]at hr;exact hr
theorem app_rw(h:Inv w0 E H w)(A:AppF C w E H t u e k inf x vs z){i nn sz' mm:Nat}{xs:List SC}(hb:H.t.get i=some (.cl e (.rw sz' mm) xs))(hl:nn*inf.size<=xs.length)(hby:(nn+k)*inf.bytes<=1000000000)
  (hr:appRw H e inf.size i nn k sz' mm xs vs=some r):AppOk C H w0 E w (Builtin.append_ #[t,u] ty #[.slice (some ⟨(E i).1,0,none⟩) nn (E i).2,x]) r:=by
 obtain⟨h0,hr⟩:=aac (show bi (zai sz' inf.size) (bi (zam nn mm) (appNew (H.upd i .gn) e inf.size (nn+k) (lapp (ltake xs (nn*inf.size)) vs)) none) none=some r from hr);obtain⟨h1,hr9⟩:=aac hr;rw [aak]at h0;rw [aaj]at h1;rw [air,aia]at hr9;subst h0;have hi:=h.lt i _ hb;have hx:=h.ok i _ hb;have hol:(xs.take (nn*inf.size)).length=nn*inf.size:=by simp;omega
 have hoo:∀y∈xs.take (nn*inf.size),y.ok H.nx:=fun y hy=>hx y (zaL hy)
 have hgn:=inv_gone h hi;by_cases hcap:nn+k<=(E i).2
 ·obtain⟨cur,t',fz,h2,h3,h4,h5,h6,h7,h8,h9,h10⟩:=h.cells hb;obtain rfl:t'=e:=by rcases h3 with h3|h3;cases h3;exact h3
  subst h10;have hcur:cur=cur.toList.toArray:=by simp
  rw [hcur]at h2;have hkz:nn*inf.size+vs.length=(nn+k)*inf.size:=by rw [A.hl,<-zaX]
  have hcz:(nn+k)*inf.size<=cur.toList.length:=by rw [Array.length_toList,h9];exact zak _ hcap
  obtain⟨g1,g2,g3,g4,g5,g6⟩:=ajs (E i).1 t' (0,0) (vs.map (SC.re E)) (nn*inf.size) cur.toList w h2 (by rw [zax,hkz];exact hcz);have hst:=run_storeCells_cells (P:=C.P) (E i).1 (nn*inf.size) (vs.map (SC.re E)) 0 w (fun j hj=>by
    simp only [World.cell?,h2]
    have:nn*inf.size+0+j<cur.toList.length:=by rw [zax]at hj;omega
    simp at this⊢
    omega) (fun j hj=>by simp [World.frozen?,h2]) (scs_one E vs)
  have h11:=A.fits (ty:=ty) (A:=⟨(E i).1,0,none⟩) (nn:=nn) hcap hby (by rw [abb,zaT];exact hst);have er:(some (SV.c (.sl H.nx 0 (nn+k) (.r 0))),(H.upd i .gn).add (.cl t' (.rw inf.size (nn+k)) (xs.take (nn*inf.size)++vs)))=r:=Option.some.inj hr9;subst er;have hyy:∀y∈xs.take (nn*inf.size)++vs,y.ok H.nx:=fun y hy=>by
   rcases List.mem_append.1 hy with hy|hy
   ·exact hoo y hy
   ·exact A.hok y hy
  refine⟨_,eat E H.nx (E i),w.setCells (E i).1 (nn*inf.size+0) (vs.map (SC.re E)),rfl,ahf E _ _,Nat.le_succ _, ?_,zad _, ?_⟩
  ·refine Inv.add hgn (ahf E _ _) (okUp hyy) ?_;have hfr:=h.hp.front i _ (h.at hb);have hbl:=(h.blt hb (k:=(E i).1) rfl)
   have hnew:Hp w [(E i).1] [resOf (eat E H.nx (E i)) H.nx (.cl t' (.rw inf.size (nn+k)) (xs.take (nn*inf.size)++vs))] (w.setCells (E i).1 (nn*inf.size+0) (vs.map (SC.re E))):=by
    simp only [Nat.add_zero];refine⟨g4,g5,g6,by rw [g3];exact zab _,fun j _ hj=>g2 j (by simpa using hj),fun q hq=> ?_,by simp⟩
    simp at hq
    subst hq;refine⟨?_,fun b hb'=> ?_⟩
    ·have hzz:(cur.toList.drop (nn*inf.size+vs.length)).length=((E i).2-(nn+k))*inf.size:=by
      rw [zaI,hkz,Array.length_toList,h9,<-Nat.sub_mul]
     have hro:=row_ok (E:=E) (b:=(E i).1) (e:=t') (zs:=(cur.toList.drop (nn*inf.size+vs.length)).toArray) (xs:=xs.take (nn*inf.size)++vs) (mm:=nn+k) (cap:=(E i).2) (sz:=inf.size)
      (by rw [zae,hol,hkz]) hcap h8 (by simpa using hzz)
     show(resOf (eat E H.nx (E i)) H.nx _).ok _
     simp only [resOf,abu];rw [scs_ext (ahf E H.nx _) hyy];have e1:(cur.toList.take (nn*inf.size))=(xs.take (nn*inf.size)).map (SC.re E):=by
      rw [List.map_take,<-h5,List.take_take,zaK hl]
     have hg:(w.setCells (E i).1 (nn*inf.size) (vs.map (SC.re E))).heap[(E i).1]? =some (.cells (((xs.take (nn*inf.size)++vs).map (SC.re E)).toArray++(cur.toList.drop (nn*inf.size+vs.length)).toArray) t'):=by
      rw [g1,e1];simp
     show(cres (E i).1 (E i).2 t' (.rw inf.size (nn+k)) _).ok ((w.setCells (E i).1 (nn*inf.size) (vs.map (SC.re E))).heap[(E i).1]?)
     rw [hg];exact hro
    ·have hbb:b=(E i).1:=by
      simp only [resOf,cres,abu,Option.some.injEq]at hb';exact hb'.symm
     subst hbb;exact⟨by rw [g3];exact hbl.1,.inr (by simp)⟩
   have hck:=Hp.callK (L1:=[resOf E i (.cl t' (.rw inf.size mm) xs)]) (L2:=(afe E H).eraseIdx i) hfr hnew;have e2:afe E (H.upd i .gn)=(afe E H).set i ⟨none,fun _=>True⟩:=by
    apply List.ext_getElem?
    intro j;rw [List.getElem?_set]
    show((List.range H.nx).map _)[j]? =_
    by_cases hj:j<H.nx
    ·simp only [List.getElem?_map,List.getElem?_range hj,zaJ,hat_upd];by_cases hij:i=j
     ·subst hij;simp [afe,hj,resOf]
     ·rw [if_neg (fun e=>hij e.symm),if_neg hij,resLs_at hj]
    ·simp [afe,hj]
     intro e1;omega
   rw [e2];have hck2:=hp_gn (show Hp w0 [] (resOf (eat E H.nx (E i)) H.nx (.cl t' (.rw inf.size (nn+k)) (xs.take (nn*inf.size)++vs))::(afe E H).eraseIdx i) _ from hck);refine hck2.perm ?_;refine(List.Perm.swap _ _ _).trans (List.Perm.cons _ ?_)
   exact(set_perm _ _ i (by rw [ahc];exact hi)).symm
  ·rw [h11];simp only [SV.re,SC.re,Cp.re,abu,Nat.sub_zero]
 ·exact app_new (H':=H.upd i .gn) h A (first_cells h hb hl w.drew fun _=>rfl) hol hoo (by omega) hby rfl hgn hr9
theorem app_sl(h:Inv w0 E H w)(A:AppF C w E H t u e k inf x vs z){i base nn:Nat}{c:Cp}(hr:appSl H e inf.size inf.bytes i base nn k c vs=some r):
  AppOk C H w0 E w (Builtin.append_ #[t,u] ty #[.slice (some ⟨(E i).1,base,none⟩) nn (c.re E i),x]) r:=by
 obtain⟨h0,hr⟩:=aac hr;obtain⟨b,h1,hr⟩:=aab hr;obtain⟨q,h2,hr⟩:=aab hr;obtain⟨h3,hr⟩:=aac hr;obtain⟨h4,hr⟩:=aac hr;obtain⟨h5,hr⟩:=aac hr;rw [aak]at h0 h3;rw [aaj,abm]at h4;rw [aaj]at h5;subst h0;rw [hbC_ok h2]at h1;obtain⟨t',md,xs⟩:=q;simp only at h3 h4 h1;subst h3;cases c with
 |k cc=>
  cases md with
  |ex=>exact app_ex h A h1 h4 h5 hr
  |fb=>exact app_fb h A h1 h4 h5 hr
  |_=>cases hr
 |r off=>
  obtain⟨h6,hr⟩:=aac (show bi (zai off 0) (Mo.rec (motive:=fun _=>WR') none (fun sz' mm=>appRw H t' inf.size i nn k sz' mm xs vs) none none md) none=some r from hr);rw [aak]at h6;subst h6;cases md with
  |rw sz' mm=>exact app_rw h A h1 h4 h5 hr
  |_=>cases hr
end
theorem evI_ok(h:Sd C m S n w0 E w){y:Operand}{k:Nat}(hv:evI m S y=some k):evn n (rF E S.F) y=.int .i64 (k:Int):=by
 obtain⟨u,h1,hv⟩:=aab hv;obtain⟨q,h2,hv⟩:=aab hv;obtain⟨h3,hv⟩:=aac hv;obtain⟨q',h4⟩:=asN_ok hv;have hx:=(ach h h1).1;rw [hx,h4 E];have h5:=h4 E;rw [asI_ok h2]at h5;simp only [SC.re,Value.int.injEq]at h5;rw [<-h5.1,kn_inj h3]
theorem isStrV_ok{y:Operand}{l q:Nat}(h:evC m S y=some (.s l q)):isStrV m S y=true:=by
 unfold isStrV;rw [h];rfl
theorem ef_append(h:Sd C m S n w0 E w){t u:Nat}{x y:Operand}{r:Option SV×Hs}{du:TypeDesc}(hdu:C.P.underlying u=some du)(hss:isSS du=true)(hv:wAppend C m S t x y=some r):
  Efx C S n w0 E w ⟨d,.call ⟨.builtin .append, #[x,y], #[t,u]⟩,ty,pos,after,gd⟩ r:=by
 obtain⟨e,h1,hv⟩:=aab hv;obtain⟨inf,h2,hv⟩:=aab hv;rw [aaz]at hv;split at hv
 ·cases hv
 rename_i h3;rw [aak]at h3;obtain⟨zz,h4,hv⟩:=aab hv;obtain⟨h5,hv⟩:=aac hv;obtain⟨nw,h6,hv⟩:=aab hv;rw [aak,abm]at h5;obtain⟨k,vs⟩:=nw;obtain⟨zv,h7,h8,h9⟩:=ajl h4 E S.H.nx w;have hz:inf.zero=some zv:=by
  simp only [zeroValue,typeInfo,Sem.run_bind]at h7;have hp:(program).run C.P w=.ok C.P w:=rfl;rw [hp]at h7;simp only [Result.andThen_ok,h2]at h7;cases hq:inf.zero with
  |none=>simp [hq,unsupported]at h7
  |some u=>simp [hq]at h7;rw [h7]
 have key:(∀l q,evC m S y=some (.s l q)->inf.size=1)->appTo m S e inf.size inf.bytes x (k,vs)=some r->Efx C S n w0 E w ⟨d,.call ⟨.builtin .append, #[x,y], #[t,u]⟩,ty,pos,after,gd⟩ r:=by
  intro hs1 hv;obtain⟨g1,g2,g3,g4⟩:=srcC_ok h h6 hs1;have hu:(∃e',C.P.underlying u=some (.slice e'))\/C.P.underlying u=some .string:=by
   rcases isSS_ok hss with⟨e',rfl⟩|rfl
   ·exact .inl ⟨e',hdu⟩
   ·exact .inr hdu
  have hf:∀w':World,(∀a,w'.cell? a=w.cell? a)->(Builtin.firstCells inf.size k (evn n (rF E S.F) y)).run C.P w'=.ok (vs.map (SC.re E)).toArray w':=fun w' hw'=>by
   have:=g4 w' k hw' (zab _)
   rw [zaG (by rw [g1];exact zab _)]at this;exact this
  have A:AppF C w E S.H t u e k inf (evn n (rF E S.F) y) vs zv:=⟨hz,by rw [h8];simpa using h5,h3,g1,g2,
   fun hr _ hst=>app_fits (adc h1) hu h2 (g3 w) (hf w fun _=>rfl) hr hst,
   fun hfo hg hb=>app_grows (adc h1) hu h2 hz (g3 w) (hf w.drew fun _=>rfl) hfo hg hb h3,
   fun hk=>by
    subst hk;have hv0:vs=[]:=zaA (by rw [g1];simp);have hf0:=hf w (fun _=>rfl);rw [hv0]at hf0;exact app_nil0 (adc h1) hu h2 (g3 w) hf0⟩
  obtain⟨v,h10,hv⟩:=aab hv;obtain⟨hx,hok⟩:=ach h h10;have fin:AppOk C S.H w0 E w (Builtin.append_ #[t,u] ty #[evn n (rF E S.F) x,evn n (rF E S.F) y]) r->Efx C S n w0 E w ⟨d,.call ⟨.builtin .append, #[x,y], #[t,u]⟩,ty,pos,after,gd⟩ r:=by
   rintro⟨v,E',w',f1,f2,f3,f4,f5,f6⟩
   obtain⟨r1,r2⟩:=r;simp only at f1;subst f1;refine⟨E',w',f2,f3,f4,f5, ?_⟩
   simp [execOp,resolve,invoke,builtin,f6,ade]
  apply fin
  rw [hx];cases v with
  |ns=>exact app_nil h.inv A hv
  |sl i base nn c=>exact app_sl h.inv A hv
  |_=>cases hv
 rw [aaz]at hv;split at hv
 ·obtain⟨h10,hv⟩:=aac hv;rw [aak]at h10;exact key (fun _ _ _=>h10) hv
 ·rename_i hs;exact key (fun l q hq=>absurd (isStrV_ok hq) hs) hv
theorem ef_appendZ(h:Sd C m S n w0 E w){t u:Nat}{x y:Operand}{r:Option SV×Hs}{du:TypeDesc}(hdu:C.P.underlying u=some du)(hv:wAppZ C m S t du x y=some r):
  Efx C S n w0 E w ⟨d,.call ⟨.builtin .append, #[x,y], #[t,u]⟩,ty,pos,after,gd⟩ r:=by
 obtain⟨q,h0,hv⟩:=aab hv;obtain⟨e,h1,hv⟩:=aab hv;obtain⟨inf,h2,hv⟩:=aab hv;rw [aaz]at hv;split at hv
 ·cases hv
 rename_i h3;rw [aak]at h3;obtain⟨zz,h4,hv⟩:=aab hv;obtain⟨h5,hv⟩:=aac hv;obtain⟨k,h6,hv⟩:=aab hv;rw [aaz]at hv;split at hv
 ·cases hv
 rename_i h11;rw [aak]at h11;rw [aak,abm]at h5;obtain⟨zv,h7,h8,h9⟩:=ajl h4 E S.H.nx w;have hz:inf.zero=some zv:=by
  simp only [zeroValue,typeInfo,Sem.run_bind]at h7;have hp:(program).run C.P w=.ok C.P w:=rfl;rw [hp]at h7;simp only [Result.andThen_ok,h2]at h7;cases hq:inf.zero with
  |none=>simp [hq,unsupported]at h7
  |some u=>simp [hq]at h7;rw [h7]
 have hu:C.P.underlying u=some (.int q):=by
  rw [hdu];unfold uIn at h0;split at h0
  ·cases h0;rfl
  ·cases h0
 have hy:=evI_ok h h6;have hk0:k*inf.size≠0:=h11;have hnews:((lrep zz k).map (SC.re E)).toArray=Builtin.zeroCells zv.cells k:=by
  have e:=made_eq (E:=E) (z:=zz) (k:=k) h8;rw [<-e];unfold Builtin.zeroCells;rw [h8];simp
 have A:AppF C w E S.H t u e k inf (evn n (rF E S.F) y) (lrep zz k) zv:=⟨hz,by rw [h8];simpa using h5,h3,by rw [lrep_len,h5],lrep_mem h9 k,
  fun {ty A nn cap w'} hr hb hst=>by
   rw [hy];exact app_fitsZ (adc h1) hu h2 hz h3 (zau (zak _ (by omega)) hb) hk0 hnews hr hst,
  fun hfo hg hb=>by
   rw [hy];exact app_growsZ (adc h1) hu h2 hz hk0 hnews hfo hg hb h3,
  fun hk=>absurd (by rw [hk];simp) hk0⟩
 obtain⟨v,h10,hv⟩:=aab hv;obtain⟨hx,hok⟩:=ach h h10;have fin:AppOk C S.H w0 E w (Builtin.append_ #[t,u] ty #[evn n (rF E S.F) x,evn n (rF E S.F) y]) r->Efx C S n w0 E w ⟨d,.call ⟨.builtin .append, #[x,y], #[t,u]⟩,ty,pos,after,gd⟩ r:=by
  rintro⟨v,E',w',f1,f2,f3,f4,f5,f6⟩
  obtain⟨r1,r2⟩:=r;simp only at f1;subst f1;refine⟨E',w',f2,f3,f4,f5, ?_⟩
  simp [execOp,resolve,invoke,builtin,f6,ade]
 apply fin
 rw [hx];cases v with
 |ns=>exact app_nil h.inv A hv
 |sl i base nn c=>exact app_sl h.inv A hv
 |_=>cases hv
theorem ef_copy(h:Sd C m S n w0 E w){t u:Nat}{x y:Operand}{r:Option SV×Hs}(hv:wCopy C m S t x y=some r):Efx C S n w0 E w ⟨d,.call ⟨.builtin .copy, #[x,y], #[t,u]⟩,ty,pos,after,gd⟩ r:=by
 obtain⟨e,h1,hv⟩:=aab hv;obtain⟨sz,h2,hv⟩:=aab hv;obtain⟨nw,h6,hv⟩:=aab hv;obtain⟨k,vs⟩:=nw;have key:(∀l q,evC m S y=some (.s l q)->sz=1)->copyV m S sz x (k,vs)=some r->Efx C S n w0 E w ⟨d,.call ⟨.builtin .copy, #[x,y], #[t,u]⟩,ty,pos,after,gd⟩ r:=by
  intro hs1 hv;obtain⟨g1,g2,g3,g4⟩:=srcC_ok h h6 hs1;obtain⟨v,h10,hv⟩:=aab hv;obtain⟨hx,hok⟩:=ach h h10;cases v with
  |ns=>
   have er:(some (SV.c (.i .i64 0)),S.H)=r:=Option.some.inj hv;subst er;have hx':evn n (rF E S.F) x=.slice none 0 0:=hx;refine⟨E,w,Ag.refl _ _,zab _,h.inv,trivial, ?_⟩
   have hf:=g4 w 0 (fun _=>rfl) (Nat.zero_le _);have hm:Nat.min k 0=0:=Nat.min_zero k;simp only [Nat.zero_mul,List.take_zero,List.map_nil]at hf;simp [execOp,resolve,invoke,builtin,hx',Builtin.copy_,run_underlying (adc h1),g3 w,afp h2 w,hm,ade,SV.re,SC.re,goInt]
   rw [hf];rfl
  |z i base dd off=>
   have er:(some (SV.c (.i .i64 0)),S.H)=r:=Option.some.inj hv;subst er;have hx':evn n (rF E S.F) x=.slice (some ⟨(E i).1,if(E i).2-off=0 then base else base+dd,none⟩) 0 ((E i).2-off):=hx;refine⟨E,w,Ag.refl _ _,zab _,h.inv,trivial, ?_⟩
   have hf:=g4 w 0 (fun _=>rfl) (Nat.zero_le _);have hm:Nat.min k 0=0:=Nat.min_zero k;simp only [Nat.zero_mul,List.take_zero,List.map_nil]at hf;simp [execOp,resolve,invoke,builtin,hx',Builtin.copy_,run_underlying (adc h1),g3 w,afp h2 w,hm,ade,SV.re,SC.re,goInt]
   rw [hf];rfl
  |sl i base nn c=>
   have hx':evn n (rF E S.F) x=.slice (some ⟨(E i).1,base,none⟩) nn (c.re E i):=hx;obtain⟨b,h11,hv⟩:=aab (show copyTo S i base sz (bi (zam k nn) k nn) vs=some r from hv);obtain⟨q,h12,hv⟩:=aab hv;obtain⟨h13,hv⟩:=aac hv;obtain⟨v,h14,hv⟩:=aab hv;cases hv
   rw [aaj,abm]at h13;have hmin:bi (zam k nn) k nn=Nat.min k nn:=by
    rw [aaz];simp only [aaj];rfl
   rw [hmin]at h13 h14;have hle:Nat.min k nn<=k:=Nat.min_le_left k nn;rw [hbC_ok h12]at h11;have hz:Nat.min k nn*sz<=vs.length:=by rw [g1];exact zak _ hle
   obtain⟨w',h15,h16⟩:=inv_store (C:=C) (off:=base) (vs:=vs.take (Nat.min k nn*sz)) h.inv h11 (by
    have h13':base+Nat.min k nn*sz<=q.2.2.length:=h13;rw [zac];omega) (fun y hy=>g2 y (zaL hy))
   obtain⟨h17,h18⟩:=iOf_ok h14;refine⟨E,w',Ag.refl _ _,zab _, ?_,by rw [h17];trivial, ?_⟩
   ·rw [hmin,aia];exact h16
   ·have hf:=g4 w (Nat.min k nn) (fun _=>rfl) hle;simp only [execOp,resolve,invoke,builtin,List.map_toArray,zao,List.map_nil,hx',Builtin.copy_,Sem.run_bind,Sem.run_pure,Result.andThen_ok];simp [run_underlying (adc h1),g3 w,afp h2 w,ade,h18,goInt]
    rw [hf];simp only [Result.andThen_ok,List.toList_toArray,h15]
  |_=>cases hv
 rw [aaz]at hv;split at hv
 ·obtain⟨h10,hv⟩:=aac hv;rw [aak]at h10;exact key (fun _ _ _=>h10) hv
 ·rename_i hs;exact key (fun l q hq=>absurd (isStrV_ok hq) hs) hv
theorem hbI_ok{b:HB}{q:Nat×Nat×Nat}(h:b.asI=some q):b=.it q.1 q.2.1 q.2.2:=by
 cases b<;>first|(cases h;rfl)|cases h
theorem ef_range(h:Sd C m S n w0 E w){t:Nat}{x:Operand}{r:Option SV×Hs}(hv:wRange C m S t x=some r):Efx C S n w0 E w ⟨d,.range t x,ty,pos,after,gd⟩ r:=by
 obtain⟨v,h1,hv⟩:=aab hv;obtain⟨q,h2,hv⟩:=aab hv;obtain⟨_,h3,hv⟩:=aab hv;cases hv
 have hx:=(ach h h1).1;obtain rfl:=asS_ok h2;have hx':evn n (rF E S.F) x=.string ⟨(dec q.1 q.2).toArray⟩:=hx;refine⟨eat E S.H.nx (w.heap.size,0),w.alloc (.stringIter ⟨(dec q.1 q.2).toArray⟩ 0),ahf E _ _,Nat.le_succ _, ?_,zad _, ?_⟩
 ·refine inv_new (o:=.stringIter ⟨(dec q.1 q.2).toArray⟩ 0) h.inv rfl trivial ?_ ?_ rfl
  ·simp only [resOf,sit,abu]
  ·simp only [resOf,sit]
 ·simp [execOp,hx',Instr.range,run_underlying (ajo h3),ade,SV.re,SC.re,abu]
theorem ef_next(h:Sd C m S n w0 E w){x:Operand}{bs:Bool}{r:Option SV×Hs}(hv:wNext m S x bs=some r):Efx C S n w0 E w ⟨d,.next x bs,ty,pos,after,gd⟩ r:=by
 obtain⟨h0,hv⟩:=aac hv;obtain⟨v,h1,hv⟩:=aab hv;obtain⟨p,h2,hv⟩:=aab hv;obtain⟨h3,hv⟩:=aac hv;obtain⟨b,h4,hv⟩:=aab hv;obtain⟨q,h5,hv⟩:=aab hv;subst h0;rw [aak]at h3;obtain⟨hx,hok⟩:=ach h h1;obtain⟨i,off⟩:=p;obtain rfl:=asP_ok h2;have h3':off=0:=h3;subst h3';have hx':evn n (rF E S.F) x=.pointer (some ⟨(E i).1,0,none⟩):=hx;rw [hbI_ok h5]at h4;obtain⟨l,y,pos'⟩:=q;have h4':S.H.t.get i=some (.it l y pos'):=h4;have hres:=(h.inv.hp.res _ (List.mem_of_getElem? (h.inv.at h4'))).1;have hh:w.heap[(E i).1]? =some (.stringIter ⟨(dec l y).toArray⟩ pos'):=hres;have hsz:(⟨(dec l y).toArray⟩:ByteArray).size=l:=aby l y;have hgo:(getObj (E i).1).run C.P w=.ok (.stringIter ⟨(dec l y).toArray⟩ pos') w:=by simp [getObj,Sem.run,hh]
 rw [aaz]at hv;split at hv
 ·rename_i hlt;rw [aaj]at hlt;have hlt':pos'<l:=hlt;obtain⟨v1,h6,hv⟩:=aab hv;obtain⟨v2,h7,hv⟩:=aab hv;cases hv
  obtain⟨rfl,h8⟩:=iOf_ok h6;obtain⟨rfl,h9⟩:=iOf_ok h7
  let dd:=Utf8.decode ⟨(dec l y).toArray⟩ pos'
  have hso:(setObj (E i).1 (.stringIter ⟨(dec l y).toArray⟩ (pos'+dd.2))).run C.P w=.ok () {w with heap:=w.heap.setIfInBounds (E i).1 (.stringIter ⟨(dec l y).toArray⟩ (pos'+dd.2))}:=by simp [setObj,Sem.run,hh]
  refine⟨E,_,Ag.refl _ _,zab _,h.inv.upd hok trivial (h.inv.hp.setIt i (E i).1 (dec l y) pos' (pos'+dd.2) (h.inv.at h4')), ?_, ?_⟩
  ·intro a ha;simp at ha
   rcases ha with rfl|rfl|rfl<;>trivial
  ·have h8':=h8 E;have h9':=h9 E;simp only [SV.re]at h8' h9';simp only [execOp,hx',Instr.next,Sem.run_bind,hgo,Result.andThen_ok,hsz,if_pos hlt']
   show(Result.andThen (Result.andThen ((setObj (E i).1 (.stringIter ⟨(dec l y).toArray⟩ (pos'+dd.2))).run C.P w) _) _)=_
   rw [hso];simp only [Result.andThen_ok,Sem.run_pure,ade,SV.re,zao,List.map_nil,SA.re];rw [h8',h9'];rfl
 ·rename_i hlt;rw [aaj]at hlt;have hlt':¬pos'<l:=hlt;cases hv
  refine⟨E,w,Ag.refl _ _,zab _,h.inv, ?_, ?_⟩
  ·intro a ha;simp at ha
   subst ha;trivial
  ·simp only [execOp,hx',Instr.next,Sem.run_bind,hgo,Result.andThen_ok,hsz,if_neg hlt'];simp only [Result.andThen_ok,Sem.run_pure,ade,SV.re,zao,List.map_nil,SA.re,SC.re]
theorem capOk_ok(h:Sd C m S n w0 E w){i k:Nat}{c:Cp}(hv:capOk S i k c=true):k<=c.re E i:=by
 cases c with
 |k cc=>have h':zam k cc=true:=hv;rw [aaj]at h';exact h'
 |r off=>
  have:=room_ok h (show room S i (off+k)=true from hv)
  show k<=(E i).2-off;omega
theorem ef_sd(h:Sd C m S n w0 E w){ts:Array TypeId}{x:Operand}{r:Option SV×Hs}(hv:wSD m S x=some r):Efx C S n w0 E w ⟨d,.call ⟨.builtin .unsafeSliceData, #[x],ts⟩,ty,pos,after,gd⟩ r:=by
 obtain⟨v,h1,hv⟩:=aab hv;obtain⟨hx,hok⟩:=ach h h1;cases v with
 |ns=>
  have er:(some (SV.c .np),S.H)=r:=Option.some.inj hv;subst er;have hx':evn n (rF E S.F) x=.slice none 0 0:=hx;refine⟨E,w,Ag.refl _ _,zab _,h.inv,trivial, ?_⟩
  simp [execOp,resolve,invoke,builtin,hx',Lib.run_unsafeSliceData_nil,ade,SV.re,SC.re]
 |sl i base nn c=>
  obtain⟨h2,hv⟩:=aac (show bi (zam 1 nn) (bi (capOk S i nn c) (some (some (SV.c (.p i base)),S.H)) none) none=some r from hv);obtain⟨h3,hv⟩:=aac hv;cases hv
  rw [aaj]at h2;have h4:=capOk_ok h h3;have hx':evn n (rF E S.F) x=.slice (some ⟨(E i).1,base,none⟩) nn (c.re E i):=hx;refine⟨E,w,Ag.refl _ _,zab _,h.inv,hok, ?_⟩
  have hr:=Lib.run_unsafeSliceData_row (P:=C.P) (w:=w) ts ty ⟨(E i).1,base,none⟩ nn (c.re E i) (by omega);simp [execOp,resolve,invoke,builtin,hx',hr,ade,SV.re,SC.re]
 |_=>cases hv
theorem tPt_ok{t e:Nat}(hv:tPt C t=some e):C.P.underlying t=some (.pointer e):=by
 obtain⟨dd,h1,h2⟩:=aab hv;unfold uPt at h2;split at h2
 ·cases h2;exact h1
 ·cases h2
theorem evI_lt{y:Operand}{k:Nat}(hv:evI m S y=some k):k<=9223372036854775807:=by
 obtain⟨u,h1,hv⟩:=aab hv;obtain⟨q,h2,hv⟩:=aab hv;obtain⟨h3,hv⟩:=aac hv;obtain⟨q',h4,hv⟩:=aab hv;rw [h2]at h4;cases h4
 obtain⟨kk,a⟩:=q;obtain rfl:=kn_inj h3;obtain⟨h5,h6⟩:=aac (show bi (zam (a%km .i64+1) (kh .i64)) (some (a%km .i64)) none=some k from hv);cases h6
 rw [aaj]at h5
 have:kh .i64=9223372036854775808:=rfl
 omega
theorem ef_us(h:Sd C m S n w0 E w){pt it:Nat}{x y:Operand}{r:Option SV×Hs}(hv:wUS C m S pt x y=some r):Efx C S n w0 E w ⟨d,.call ⟨.builtin .unsafeString, #[x,y], #[pt,it]⟩,ty,pos,after,gd⟩ r:=by
 obtain⟨k,h1,hv1⟩:=aab hv;obtain⟨v,h2,hv2⟩:=aab hv1;clear hv hv1;have hy:=evI_ok h h1;obtain⟨hx,hok⟩:=ach h h2;rw [aaz]at hv2;split at hv2
 ·rename_i h0;rw [aak]at h0;have h0:k=0:=h0;obtain⟨h3,hv3⟩:=aac hv2;cases hv3
  subst h0;refine⟨E,w,Ag.refl _ _,zab _,h.inv,trivial, ?_⟩
  have:∃p,evn n (rF E S.F) x=.pointer p:=by
   rw [hx];cases v<;>first|exact⟨_,rfl⟩|cases h3
  obtain⟨p,hp⟩:=this;have hr:=Lib.run_unsafeString_none (P:=C.P) (w:=w) pt it ty p;have hy':evn n (rF E S.F) y=.int .i64 0:=hy;simp [execOp,resolve,invoke,builtin,hp,hy',hr,ade,SV.re,SC.re]
  rfl
 ·rename_i h0;rw [aak]at h0;have h0:¬k=0:=h0;obtain⟨p,h3,hv⟩:=aab hv2;obtain⟨h4,hv⟩:=aac hv;obtain⟨b,h5,hv⟩:=aab hv;obtain⟨q,h6,hv⟩:=aab hv;obtain⟨e,h7,hv⟩:=aab hv;obtain⟨h8,hv⟩:=aac hv;obtain⟨h9,hv⟩:=aac hv;obtain⟨h10,hv⟩:=aac hv;obtain⟨h11,hv⟩:=aac hv;obtain⟨z,h12,hv⟩:=aab hv;cases hv
  obtain⟨i,off⟩:=p;obtain rfl:=asP_ok h3;rw [aak]at h4 h8 h9;have h4:off=0:=h4;subst h4;rw [hbC_ok h6]at h5;obtain⟨t,md,xs⟩:=q;have h5:S.H.t.get i=some (.cl t md xs):=h5;have h8:t=e:=h8;subst h8;rw [aaj,abm]at h11;have h11:k<=xs.length:=h11;obtain⟨cur,t',fz,c1,c2,c3,c4,c5⟩:=h.inv.cells h5;have ht:t'=t:=by
   rcases c2 with rfl|c2
   ·cases h10
   ·exact c2
  subst ht;have hx':evn n (rF E S.F) x=.pointer (some ⟨(E i).1,0,none⟩):=hx;have hz:=encC_ok h12 E;rw [aia]at hz;have hzl:(xs.take k).length=k:=by simp;omega
  rw [hzl]at hz;have hdl:(dec k z).length=k:=aby k z;have hr:=Lib.run_unsafeString_row (P:=C.P) (w:=w) pt it ty t' (tPt_ok h7) h9 (E i).1 cur.size (by simp [World.shape?,c1]) (dec k z) (fun e=>h0 (by rw [<-hdl,e];rfl)) (by rw [hdl];first|omega|(rw [zax]at c3;omega)) (by
   rw [hdl];exact evI_lt h1) (fun j u hj=>by
    rw [abb,zaT];have e1:=congrArg (fun l=>l[j]?) hz;simp only [List.getElem?_map,hj,zaJ]at e1;rw [List.getElem?_take]at e1;split at e1
    ·obtain⟨y',hy1,hy2⟩:=Option.map_eq_some_iff.1 e1;rw [h.inv.cell h5 hy1,hy2];rfl
    ·cases e1)
  rw [hdl]at hr;refine⟨E,w.freeze ⟨(E i).1,0,none⟩ k,Ag.refl _ _,zab _, ?_,trivial, ?_⟩
  ·refine h.inv.upd hok trivial ?_;refine h.inv.hp.change i _ _ (h.inv.at h5) ?_ ?_ ?_ ?_ (fun j hj hne=> ?_) ?_ (fun b hb=> ?_)
   ·unfold World.freeze;rw [if_neg h0]
   ·unfold World.freeze;rw [if_neg h0]
   ·unfold World.freeze;rw [if_neg h0]
   ·unfold World.freeze;rw [if_neg h0];simp
   ·unfold World.freeze;rw [if_neg h0];simp only [Array.getElem?_modify];rw [if_neg (fun e=>hne (by simp only [resOf,cres];rw [<-e]))]
   ·trivial
   ·cases hb
  ·simp [execOp,resolve,invoke,builtin,hx',hy,hr,ade,SV.re,SC.re]
   rfl
theorem tMp_ok{t:Nat}{q:Nat×Nat}(hv:tMp C t=some q):C.P.underlying t=some (.map q.1 q.2):=by
 obtain⟨dd,h1,h2⟩:=aab hv;unfold uMp at h2;split at h2
 ·cases h2;exact h1
 ·cases h2
theorem asM_ok{x:SC}{i:Nat}(h:x.asM=some i):x=.m i:=by
 cases x<;>first|(cases h;rfl)|cases h
theorem hbM_ok{b:HB}{es:List (SC×SC)}(h:b.asM=some es):b=.mp es:=by
 cases b<;>first|(cases h;rfl)|cases h
def KeyT(d:TypeDesc)(x:SC):Prop:=(∃k n,d=.int k/\x=.i k n)\/(∃l y,d=.string/\x=.s l y)
theorem keyOk_ok{t:Nat}{x:SC}{u:Unit}(hv:keyOk C t x=some u):∃d,C.P.underlying t=some d/\KeyT d x:=by
 obtain⟨dd,h1,h2⟩:=aab hv;refine⟨dd,h1, ?_⟩
 split at h2
 ·rename_i k;obtain⟨q,h3,h4⟩:=aab h2;obtain⟨h5,_⟩:=aac h4;obtain rfl:=asI_ok h3;obtain rfl:=kn_inj h5;exact .inl ⟨_,_,rfl,rfl⟩
 ·obtain⟨q,h3,_⟩:=aab h2;obtain rfl:=asS_ok h3;exact .inr ⟨_,_,rfl,rfl⟩
 ·cases h2
theorem ba_beq(a b:List UInt8):((⟨a.toArray⟩:ByteArray)==⟨b.toArray⟩)=decide (a=b):=by
 show(a.toArray==b.toArray)=_
 rw [zbb];simp
theorem keq_ok{d:TypeDesc}{x y:SC}{b:Bool}(hk:KeyT d x)(hv:keq x y=some b)(E:En):Instr.sameNow d (x.re E) (y.re E)=some b/\(b=true->Instr.sameBits 10000 (y.re E) (x.re E)=true):=by
 rcases hk with⟨k,n,rfl,rfl⟩|⟨l,z,rfl,rfl⟩
 ·obtain⟨q,h1,h2⟩:=aab (show(ob y.asI fun q=>bi (zai (kn k) (kn q.1)) (some (ieqN k n q.2)) none)=some b from hv);obtain⟨h3,h4⟩:=aac h2;obtain⟨k',c⟩:=q;obtain rfl:=asI_ok h1;obtain rfl:=kn_inj h3;cases h4
  rw [ieqN_eq];simp only [SC.re,Instr.sameNow,if_true];refine⟨?_,fun h=> ?_⟩
  ·congr 1
  ·have:=of_decide_eq_true h
   simp [Instr.sameBits,this]
 ·obtain⟨q,h1,h2⟩:=aab (show(ob y.asS fun q=>some (seq l z q.1 q.2))=some b from hv);obtain rfl:=asS_ok h1;cases h2
  rw [seq_eq];simp only [SC.re,str,Instr.sameNow];refine⟨?_,fun h=> ?_⟩
  ·rw [ba_beq]
  ·have:=of_decide_eq_true h
   simp [Instr.sameBits,this,ba_beq]
def mapR(E:En)(r:Option (Nat×SC))(k:Nat):Option (Nat×Value):=r.map fun z=>(k+z.1,z.2.re E)
theorem mfind_ok{d:TypeDesc}{x:SC}(hk:KeyT d x)(E:En):∀(es:List (SC×SC)) (ms:List MapEntry) (r:Option (Nat×SC)) (j:Nat),mfind x es=some r->ms.map (fun e=>(e.key,e.val))=es.map (fun p=>(p.1.re E,p.2.re E))->
  Instr.findNow d (x.re E) ms j=some (mapR E r j)/\(∀z,r=some z->∃e:MapEntry,ms[z.1]? =some e/\Instr.sameBits 10000 e.key (x.re E)=true/\z.1<es.length/\∃p∈es,p.2=z.2)
 |[],ms,r,j,h,hm=>by
  cases h
  have:ms=[]:=by cases ms with|nil=>rfl|cons a l=>simp at hm
  subst this;exact⟨rfl,fun z hz=>by cases hz⟩
 |e::es,ms,r,j,h,hm=>by
  obtain⟨b,h1,h2⟩:=aab (show(ob (keq x e.1) fun b=>bi b (some (some (0,e.2))) (ob (mfind x es) fun q=>some (zaj none (fun z=>some (zaR z.1,z.2)) q)))=some r from h);cases ms with
  |nil=>simp at hm
  |cons m ms=>
   simp only [zao,List.cons.injEq,Prod.mk.injEq]at hm;obtain⟨⟨m1,m2⟩,m3⟩:=hm;obtain⟨k1,k2⟩:=keq_ok hk h1 E;cases b with
   |true=>
    have h2':some (some (0,e.2))=some r:=h2;cases h2'
    refine⟨?_,fun z hz=> ?_⟩
    ·unfold Instr.findNow;rw [m1,k1];simp [mapR,m2]
    ·cases hz
     exact⟨m,rfl,by rw [m1];exact k2 rfl,by simp,e,by simp,rfl⟩
   |false=>
    obtain⟨q,h3,h4⟩:=aab (show(ob (mfind x es) fun q=>some (zaj none (fun z=>some (zaR z.1,z.2)) q))=some r from h2);cases h4
    obtain⟨i1,i2⟩:=mfind_ok hk E es ms q (j+1) h3 m3;refine⟨?_,fun z hz=> ?_⟩
    ·unfold Instr.findNow;rw [m1,k1];simp only;rw [i1];cases q with
     |none=>rfl
     |some z=>simp only [mapR,zaJ];congr 3;omega
    ·cases q with
     |none=>cases hz
     |some y=>
      have hz':some (zaR y.1,y.2)=some z:=hz;cases hz'
      obtain⟨e',f1,f2,f3,p,f4,f5⟩:=i2 y rfl;exact⟨e',by simpa using f1,f2,by simp;omega,p,by simp [f4],f5⟩
theorem checkKey_ok{t:Nat}{d:TypeDesc}{x:SC}(E:En)(b:Bool)(h:C.P.underlying t=some d)(hk:KeyT d x)(w:World):(Instr.checkKey b 10000 t (x.re E)).run C.P w=.ok () w:=by
 have e:Instr.checkKey b 10000 t (x.re E)=Instr.checkKey b (9999+1) t (x.re E):=rfl;rw [e,Instr.checkKey];rcases hk with⟨k,n,rfl,rfl⟩|⟨l,z,rfl,rfl⟩<;>simp [run_underlying h,SC.re,str]
theorem findKey_ok{t:Nat}{d:TypeDesc}{x:SC}(E:En)(h:C.P.underlying t=some d){ms:List MapEntry}{r:Option (Nat×Value)}(hr:Instr.findNow d (x.re E) ms 0=some r)(w:World):(Instr.findKey t (x.re E) ms).run C.P w=.ok r w:=by
 simp [Instr.findKey,run_underlying h,hr]
theorem ef_makeMap(h:Sd C m S n w0 E w){t:Nat}{x:Option Operand}{r:Option SV×Hs}(hv:wMakeMap C m S t x=some r):Efx C S n w0 E w ⟨d,.makeMap t x,ty,pos,after,gd⟩ r:=by
 obtain⟨q,h1,hv⟩:=aab hv;obtain⟨a,h2,hv⟩:=aab hv;cases hv
 have ht:=tMp_ok h1;refine⟨eat E S.H.nx (w.heap.size,0),w.alloc (.map #[] 0),ahf E _ _,Nat.le_succ _, ?_,zad _, ?_⟩
 ·refine inv_new (o:=.map #[] 0) h.inv rfl (fun p hp=>by cases hp) ?_ ?_ rfl
  ·simp only [resOf,mpres,abu]
  ·exact⟨#[],0,rfl,rfl⟩
 ·rcases evND_ok h h2 with⟨rfl,_⟩|⟨y,q',rfl,h3⟩
  ·simp [execOp,Instr.makeMap,ade,SV.re,SC.re,abu]
  ·simp [execOp,Instr.makeMap,run_underlying ht,h3,asInt,asIntOf,ade,SV.re,SC.re,abu]
theorem biT{α:Type}(x y:α):bi true x y=x:=rfl
theorem biF{α:Type}(x y:α):bi false x y=y:=rfl
theorem reB(E:En)(b:Bool):(SC.b b).re E=.bool b:=rfl
theorem mapAt(h:Sd C m S n w0 E w){i:Nat}{es:List (SC×SC)}(h4:S.H.t.get i=some (.mp es)):∃ms clock,w.heap[(E i).1]? =some (.map ms clock)/\ms.toList.map (fun e=>(e.key,e.val))=es.map (fun p=>(p.1.re E,p.2.re E))/\(∀p∈es,p.1.ok S.H.nx/\p.2.ok S.H.nx):=by
 have hres:=(h.inv.hp.res _ (List.mem_of_getElem? (h.inv.at h4))).1;obtain⟨ms,clock,e1,e2⟩:=hres;exact⟨ms,clock,e1,e2,h.inv.ok i _ h4⟩
theorem ef_lookup(h:Sd C m S n w0 E w){t:Nat}{x ix:Operand}{bo:Bool}{r:Option SV×Hs}(hv:wLookup C m S t x ix bo=some r):Efx C S n w0 E w ⟨d,.lookup t x ix bo,ty,pos,after,gd⟩ r:=by
 obtain⟨q,h1,hv⟩:=aab hv;obtain⟨v,h2,hv⟩:=aab hv;obtain⟨i,h3,hv⟩:=aab hv;obtain⟨b,h4,hv⟩:=aab hv;obtain⟨es,h5,hv⟩:=aab hv;obtain⟨k,h6,hv⟩:=aab hv;obtain⟨u,h7,hv⟩:=aab hv;obtain⟨f,h8,hv⟩:=aab hv;obtain⟨y,h9,hv⟩:=aab hv;cases hv
 have ht:=tMp_ok h1;obtain rfl:=asM_ok h3;obtain rfl:=hbM_ok h5;have hx:evn n (rF E S.F) x=.map (some (E i).1):=(ach h h2).1;obtain⟨hk,hkok⟩:=ach h h6;obtain⟨ms,clock,g1,g2,g3⟩:=mapAt h h4;obtain⟨dk,h10,h11⟩:=keyOk_ok h7;obtain⟨f1,f2⟩:=mfind_ok h11 E es ms.toList f 0 h8 g2;have hgo:(getObj (E i).1).run C.P w=.ok (.map ms clock) w:=by simp [getObj,Sem.run,g1]
 have hc:=fun b=>checkKey_ok (C:=C) E b h10 h11 w
 have hf:=findKey_ok (C:=C) E h10 f1 w;cases f with
 |none=>
  obtain⟨z,e1,e2⟩:=aab (show(ob (sval C.P (zeroValue q.2)) cvc)=some y from h9);obtain⟨e3,e4⟩:=cvc_ok e2 E S.H.nx;have e5:=ajp e1 w;have hf':(Instr.findKey q.1 (k.re E) ms.toList).run C.P w=.ok none w:=hf;cases bo with
  |true=>
   refine⟨E,w,Ag.refl _ _,zab _,h.inv, ?_, ?_⟩
   ·intro a ha;simp at ha
    rcases ha with rfl|rfl
    ·exact e4
    ·trivial
   ·simp [execOp,hx,hk,Instr.lookup,run_underlying ht,hgo,hc,hf',e5,ade,biT,biF,SV.re,SA.re,reB,e3]
  |false=>
   refine⟨E,w,Ag.refl _ _,zab _,h.inv,e4, ?_⟩
   simp [execOp,hx,hk,Instr.lookup,run_underlying ht,hgo,hc,hf',e5,ade,biT,biF,SV.re,SA.re,reB,e3]
 |some z=>
  have e1:some z.2=some y:=h9;cases e1
  obtain⟨e',_,_,_,p,p1,p2⟩:=f2 z rfl;have e4:z.2.ok S.H.nx:=by rw [<-p2];exact(g3 p p1).2
  have hf':(Instr.findKey q.1 (k.re E) ms.toList).run C.P w=.ok (some (0+z.1,z.2.re E)) w:=hf;cases bo with
  |true=>
   refine⟨E,w,Ag.refl _ _,zab _,h.inv, ?_, ?_⟩
   ·intro a ha;simp at ha
    rcases ha with rfl|rfl
    ·exact e4
    ·trivial
   ·simp [execOp,hx,hk,Instr.lookup,run_underlying ht,hgo,hc,hf',ade,biT,biF,SV.re,SA.re,reB]
  |false=>
   refine⟨E,w,Ag.refl _ _,zab _,h.inv,e4, ?_⟩
   simp [execOp,hx,hk,Instr.lookup,run_underlying ht,hgo,hc,hf',ade,biT,biF,SV.re,SA.re,reB]
theorem mput_eq(x:SC×SC):∀(es:List (SC×SC)) (j:Nat),mput es x j=es.set j x
 |[],j=>rfl
 |e::es,0=>rfl
 |e::es,j+1=>congrArg (e::·) (mput_eq x es j)
theorem _root_.Go.Wk.Hp.setMp{w0 w:World}{S:List Nat}{L:List Res}(h:Hp w0 S L w)(k b:Nat)(l l':List (Value×Value))(ms:Array MapEntry)(c:Nat)(hk:L[k]? =some (mpres b l))(hm:ms.toList.map (fun e=>(e.key,e.val))=l'):
  Hp w0 S (L.set k (mpres b l')) {w with heap:=w.heap.setIfInBounds b (.map ms c)}:=by
 have hb:=((h.res _ (List.mem_of_getElem? hk)).2 b rfl).1;refine h.change k _ _ hk rfl rfl rfl (by simp) (fun j hj hne=> ?_) ?_ (fun c hc=> ?_)
 ·show(w.heap.setIfInBounds b _)[j]? =_
  rw [Array.getElem?_setIfInBounds_ne (fun e=>hne (by rw [e];rfl))]
 ·show∃es clock,(w.heap.setIfInBounds b _)[b]? =_/\_
  exact⟨ms,c,by simp [hb],hm⟩
 ·cases hc
  exact⟨.inl rfl,by simpa using hb⟩
theorem ef_mapUpd(h:Sd C m S n w0 E w){t:Nat}{x ix y:Operand}{r:Option SV×Hs}(hv:wMapUpd C m S t x ix y=some r):Efx C S n w0 E w ⟨d,.mapUpdate t x ix y,ty,pos,after,gd⟩ r:=by
 obtain⟨q,h1,hv⟩:=aab hv;obtain⟨v,h2,hv⟩:=aab hv;obtain⟨i,h3,hv⟩:=aab hv;obtain⟨b,h4,hv⟩:=aab hv;obtain⟨es,h5,hv⟩:=aab hv;obtain⟨k,h6,hv⟩:=aab hv;obtain⟨u,h7,hv⟩:=aab hv;obtain⟨z,h8,hv⟩:=aab hv;obtain⟨f,h9,hv⟩:=aab hv;cases hv
 have ht:=tMp_ok h1;obtain rfl:=asM_ok h3;obtain rfl:=hbM_ok h5;obtain⟨hx,hxok⟩:=ach h h2;have hx:evn n (rF E S.F) x=.map (some (E i).1):=hx;obtain⟨hk,hkok⟩:=ach h h6;obtain⟨hz,hzok⟩:=ach h h8;obtain⟨ms,clock,g1,g2,g3⟩:=mapAt h h4;obtain⟨dk,h10,h11⟩:=keyOk_ok h7;obtain⟨f1,f2⟩:=mfind_ok h11 E es ms.toList f 0 h9 g2;have hgo:(getObj (E i).1).run C.P w=.ok (.map ms clock) w:=by simp [getObj,Sem.run,g1]
 have hc:=fun b=>checkKey_ok (C:=C) E b h10 h11 w
 have hf:=findKey_ok (C:=C) E h10 f1 w;have hso:∀ms' c',(setObj (E i).1 (.map ms' c')).run C.P w=.ok () {w with heap:=w.heap.setIfInBounds (E i).1 (.map ms' c')}:=fun ms' c'=>by simp [setObj,Sem.run,g1]
 cases f with
 |none=>
  have hf':(Instr.findKey q.1 (k.re E) ms.toList).run C.P w=.ok none w:=hf;refine⟨E,_,Ag.refl _ _,zab _,h.inv.upd hxok ?_ (h.inv.hp.setMp i (E i).1 _ _ (ms.push {key:=k.re E,val:=z.re E,born:=clock}) (clock+1) (h.inv.at h4) ?_),trivial, ?_⟩
  ·intro p hp;have hp:p∈lapp es [(k,z)]:=hp;rw [air]at hp;rcases List.mem_append.1 hp with hp|hp
   ·exact g3 p hp
   ·simp at hp;subst hp;exact⟨hkok,hzok⟩
  ·rw [Array.toList_push,zbc,g2];show _=(lapp es [(k,z)]).map _;rw [air,zbc];rfl
  ·simp [execOp,hx,hk,hz,Instr.mapUpdate,run_underlying ht,hgo,hc,hf',hso,ade]
 |some zz=>
  obtain⟨e',p1,p2,p3,p,p4,p5⟩:=f2 zz rfl;have hf':(Instr.findKey q.1 (k.re E) ms.toList).run C.P w=.ok (some (0+zz.1,zz.2.re E)) w:=hf;have hke:((ms[zz.1]?.map (·.key)).getD (k.re E))=e'.key:=by
   rw [Array.getElem?_toList]at p1;rw [p1];rfl
  refine⟨E,_,Ag.refl _ _,zab _,h.inv.upd hxok ?_ (h.inv.hp.setMp i (E i).1 _ _ (ms.modify zz.1 fun e=>{e with key:=k.re E,val:=z.re E}) clock (h.inv.at h4) ?_),trivial, ?_⟩
  ·intro p hp;have hp:p∈mput es (k,z) zz.1:=hp;rw [mput_eq]at hp;rcases List.mem_or_eq_of_mem_set hp with hp|rfl
   ·exact g3 p hp
   ·exact⟨hkok,hzok⟩
  ·show _=(mput es (k,z) zz.1).map _;rw [mput_eq,List.map_set,<-g2];refine List.ext_getElem? fun j=> ?_
   simp only [List.getElem?_map,Array.getElem?_toList,Array.getElem?_modify,List.getElem?_set,zax,Array.length_toList];by_cases hj:zz.1=j
   ·subst hj;cases hm:ms[zz.1]? with
    |none=>
     have:ms.size<=zz.1:=by simpa using hm
     simp;omega
    |some m=>
     obtain⟨hl,_⟩:=Array.getElem?_eq_some_iff.1 hm;simp [hl]
   ·simp [hj]
  ·simp [execOp,hx,hk,hz,Instr.mapUpdate,run_underlying ht,hgo,hc,hf',hso,ade,Instr.keyThatStays,hke,p2]
theorem ef_clear(h:Sd C m S n w0 E w){t:Nat}{x:Operand}{r:Option SV×Hs}(hv:wClear C m S t x=some r):Efx C S n w0 E w ⟨d,.call ⟨.builtin .clear, #[x], #[t]⟩,ty,pos,after,gd⟩ r:=by
 obtain⟨e,h1,hv⟩:=aab hv;obtain⟨z,h2,hv⟩:=aab hv;obtain⟨v,h3,hv⟩:=aab hv;obtain⟨hx,hok⟩:=ach h h3;obtain⟨zv,h7,h8,h9⟩:=ajl h2 E S.H.nx w;cases v with
 |ns=>
  have er:(some (SV.t []),S.H)=r:=Option.some.inj hv;subst er;have hx':evn n (rF E S.F) x=.slice none 0 0:=hx;refine⟨E,w,Ag.refl _ _,zab _,h.inv,(fun y hy=>by cases hy), ?_⟩
  simp [execOp,resolve,invoke,builtin,hx',Builtin.clear_,run_underlying (adc h1),ade,SV.re]
 |z i base dd off=>
  have er:(some (SV.t []),S.H)=r:=Option.some.inj hv;subst er;have hx':evn n (rF E S.F) x=.slice (some ⟨(E i).1,if(E i).2-off=0 then base else base+dd,none⟩) 0 ((E i).2-off):=hx;refine⟨E,w,Ag.refl _ _,zab _,h.inv,(fun y hy=>by cases hy), ?_⟩
  simp [execOp,resolve,invoke,builtin,hx',Builtin.clear_,run_underlying (adc h1),ade,SV.re]
 |sl i base nn c=>
  have hx':evn n (rF E S.F) x=.slice (some ⟨(E i).1,base,none⟩) nn (c.re E i):=hx;have hv:clrSl S z (aid z) i base nn=some r:=hv;unfold clrSl at hv;rw [aaz]at hv;split at hv
  ·rename_i h0;rw [aak]at h0;have h0:nn=0:=h0;subst h0;cases hv
   refine⟨E,w,Ag.refl _ _,zab _,h.inv,(fun y hy=>by cases hy), ?_⟩
   simp [execOp,resolve,invoke,builtin,hx',Builtin.clear_,run_underlying (adc h1),ade,SV.re]
  ·rename_i h0;rw [aak]at h0;have h0:¬nn=0:=h0;obtain⟨b,h4,hv⟩:=aab hv;obtain⟨q,h5,hv⟩:=aab hv;obtain⟨h6,hv⟩:=aac hv;cases hv
   rw [aaj,abm,abm]at h6;rw [hbC_ok h5]at h4;have hnews:Builtin.zeroCells zv.cells nn=((lrep z nn).map (SC.re E)).toArray:=by
    have e:=made_eq (E:=E) (z:=z) (k:=nn) h8;rw [<-e];unfold Builtin.zeroCells;rw [h8];simp
   obtain⟨w',h15,h16⟩:=inv_store (C:=C) (off:=base) (vs:=lrep z nn) h.inv h4 (by
    have h6':base+nn*z.length<=q.2.2.length:=h6;rw [lrep_len];omega) (lrep_mem h9 nn)
   refine⟨E,w',Ag.refl _ _,zab _,h16,(fun y hy=>by cases hy), ?_⟩
   obtain⟨nn,rfl⟩:∃j,nn=j+1:=⟨nn-1,by omega⟩
   simp [execOp,resolve,invoke,builtin,hx',Builtin.clear_,run_underlying (adc h1),h7,hnews,h15,ade,SV.re]
 |_=>cases hv
theorem ef_call(h:Sd C m S n w0 E w){c:Call}{r:Option SV×Hs}(hv:wCall C m S ⟨d,.call c,ty,pos,after,gd⟩ c=some r):Efx C S n w0 E w ⟨d,.call c,ty,pos,after,gd⟩ r:=by
 obtain⟨cl,azq,ts⟩:=c;unfold wCall at hv;dsimp only at hv;split at hv
 ·rename_i x h1;obtain rfl:=aja h1;exact ef_sd h hv
 ·rename_i x y pt it h1 h2;obtain rfl:=aja h1;obtain rfl:=aja h2;exact ef_us h hv
 ·rename_i x y t u h1 h2;obtain rfl:=aja h1;obtain rfl:=aja h2;obtain⟨du,h3,hv⟩:=aab hv;rw [aaz]at hv;split at hv
  ·rename_i h4;exact ef_append h h3 h4 hv
  ·exact ef_appendZ h h3 hv
 ·rename_i x y t u h1 h2;obtain rfl:=aja h1;obtain rfl:=aja h2;exact ef_copy h hv
 ·rename_i x t h1 h2;obtain rfl:=aja h1;obtain rfl:=aja h2;exact ef_clear h hv
 ·exact ahu h (fun v hv=>yd_call h hv) hv
theorem asL_ok{x:SC}{i:Nat}(h:x.asL=some i):∃base n c,x=.sl i base n c:=by
 cases x<;>first|(cases h;exact⟨_,_,_,rfl⟩)|cases h
theorem ef_same(h:Sd C m S n w0 E w){s t:Nat}{x:Operand}{r:Option SV×Hs}(hv:wSame C m S s t x=some r):Efx C S n w0 E w ⟨d,.convert s t x,ty,pos,after,gd⟩ r:=by
 obtain⟨h1,hv1⟩:=aac hv;clear hv;rw [aak]at h1;have h1:s=t:=h1;subst h1;obtain⟨v,h2,hv⟩:=aab hv1;obtain⟨i,h3,hv⟩:=aab hv;obtain⟨e,h4,hv⟩:=aab hv;obtain⟨u,h5,hv⟩:=aab hv;obtain⟨b,h6,hv⟩:=aab hv;obtain⟨q,h7,hv⟩:=aab hv;obtain⟨hx,hok⟩:=ach h h2;obtain⟨base,nn,c,rfl⟩:=asL_ok h3;obtain⟨tt,md,xs⟩:=q;rw [hbC_ok h7]at h6;have key:∀md md',(md=.ex/\md'=.fb\/md=.bw/\md'=.bw\/md=.fb/\md'=.fb)->S.H.t.get i=some (.cl tt md xs)->Efx C S n w0 E w ⟨d,.convert s s x,ty,pos,after,gd⟩ (some (SV.c (.sl i base nn c)),S.H.upd i (.cl tt md' xs)):=by
  intro md md' hmd h6;obtain⟨cur,t',fz,c1,c2,c3,c4,c5⟩:=h.inv.cells h6;have hx':evn n (rF E S.F) x=.slice (some ⟨(E i).1,base,none⟩) nn (c.re E i):=hx;have hsh:w.shape? (E i).1=some (t',cur.size):=by simp [World.shape?,c1]
  obtain⟨lo,hi⟩:=fz;refine⟨E,w.freeze ⟨(E i).1,cur.size,none⟩ 1,Ag.refl _ _,zab _, ?_,hok, ?_⟩
  ·refine h.inv.upd hok (show(HB.cl tt md' xs).ok S.H.nx from show∀x∈xs,x.ok S.H.nx from h.inv.ok i (.cl tt md xs) h6) ?_;refine h.inv.hp.change i _ _ (h.inv.at h6) rfl rfl rfl (by simp [World.freeze]) (fun j hj hne=> ?_) ?_ (fun b hb=> ?_)
   ·simp only [World.freeze,if_neg (show¬(1=0)by decide),Array.getElem?_modify];rw [if_neg (fun e=>hne (by simp only [resOf,cres];rw [<-e]))]
   ·show∃cur t' fz,_
    refine⟨cur,t',(if lo==hi then(cur.size,cur.size+1)else(min lo cur.size,max hi (cur.size+1))), ?_,(by rcases hmd with⟨rfl,rfl⟩|⟨rfl,rfl⟩|⟨rfl,rfl⟩<;>rcases c2 with c2|c2<;>first|exact .inr c2|exact .inl c2|cases c2),by simpa using c3,by simpa using c4, ?_⟩
    ·show(w.freeze ⟨(E i).1,cur.size,none⟩ 1).heap[(E i).1]? =_
     simp [World.freeze,Array.getElem?_modify,c1]
    ·rw [zax];rcases hmd with⟨rfl,rfl⟩|⟨rfl,rfl⟩|⟨rfl,rfl⟩
     ·have c5':cur.size=xs.length/\(lo,hi)=(0,0):=c5;have e:=c5'.2;cases e
      exact⟨c5'.1,zab _⟩
     rotate_left
     ·have c5':cur.size=xs.length/\cur.size<=lo:=c5;refine⟨c5'.1, ?_⟩
      split
      ·exact zab _
      ·show cur.size<=min lo cur.size;omega
     ·have c5':xs.length<=(E i).2/\(E i).2<=cur.size/\cur.size<=lo:=c5;refine⟨c5'.1,c5'.2.1, ?_⟩
      split
      ·exact zab _
      ·show cur.size<=min lo cur.size;omega
   ·cases hb
    refine⟨.inl rfl, ?_⟩
    have:=(Array.getElem?_eq_some_iff.1 c1).1
    simpa [World.freeze] using this
  ·simp [execOp,hx',convert,run_underlying (adc h4),run_underlying (isU8_ok h5),markStringish,hsh,ade,SV.re,SC.re]
 cases md with
 |ex=>
  have er:(some (SV.c (.sl i base nn c)),S.H.upd i (.cl tt .fb xs))=r:=Option.some.inj hv;subst er;exact key .ex .fb (.inl ⟨rfl,rfl⟩) h6
 |fb=>
  have er:(some (SV.c (.sl i base nn c)),S.H.upd i (.cl tt .fb xs))=r:=Option.some.inj hv;subst er;exact key .fb .fb (.inr (.inr ⟨rfl,rfl⟩)) h6
 |rw a b=>cases hv
 |bw=>
  have er:(some (SV.c (.sl i base nn c)),S.H.upd i (.cl tt .bw xs))=r:=Option.some.inj hv;subst er;exact key .bw .bw (.inr (.inl ⟨rfl,rfl⟩)) h6
theorem ef_conv(h:Sd C m S n w0 E w){s t:Nat}{x:Operand}{r:Option SV×Hs}(hv:wConv C m S ⟨d,.convert s t x,ty,pos,after,gd⟩ s t x=some r):Efx C S n w0 E w ⟨d,.convert s t x,ty,pos,after,gd⟩ r:=by
 unfold wConv at hv;cases hb:wBytes C m S s t x with
 |none=>
  rw [hb]at hv;cases hb2:wSame C m S s t x with
  |none=>
   have hv:(zaj (wVal S (opConv C m S ⟨d,.convert s t x,ty,pos,after,gd⟩ s t x)) some (wSame C m S s t x):WR')=some r:=hv;rw [hb2]at hv;exact ahu h (fun v hv=>yd_conv h hv) hv
  |some r'=>
   have hv:(zaj (wVal S (opConv C m S ⟨d,.convert s t x,ty,pos,after,gd⟩ s t x)) some (wSame C m S s t x):WR')=some r:=hv;rw [hb2]at hv;obtain rfl:r'=r:=Option.some.inj hv;exact ef_same h hb2
 |some r'=>
  rw [hb]at hv;obtain rfl:r'=r:=Option.some.inj hv;exact ef_bytes h hb
theorem opW_ok(h:Sd C m S n w0 E w){o:Oper}{r:Option SV×Hs}(hv:opW o.op C m S o=some r):Efx C S n w0 E w o r:=by
 obtain⟨d,op,ty,pos,after,gd⟩:=o;cases op with
 |alloc t=>exact ef_alloc h hv
 |box t x=>exact ef_box h hv
 |buildSlice t l ps=>exact ef_buildSlice h hv
 |makeSlice t x y=>exact ef_make h hv
 |store t x y=>exact ef_store h hv
 |makeMap t x=>exact ef_makeMap h hv
 |lookup t x ix bo=>exact ef_lookup h hv
 |mapUpdate t x k y=>exact ef_mapUpd h hv
 |insert t x k y=>
  obtain⟨E',w',h1,h2,h3,h4,h5⟩:=ef_mapUpd (d:=d) (ty:=ty) (pos:=pos) (after:=after) (gd:=gd) h (t:=t) (x:=x) (ix:=k) (y:=y) hv;exact⟨E',w',h1,h2,h3,h4,h5⟩
 |range t x=>exact ef_range h hv
 |next x b=>exact ef_next h hv
 |call c=>exact ef_call h hv
 |convert s t x=>exact ef_conv h hv
 |move x=>exact ahu h (fun v hv=>yd_move h hv) hv
 |assign x=>exact ahu h (fun v hv=>yd_assign h hv) hv
 |pick c a b=>exact ahu h (fun v hv=>yd_pick h hv) hv
 |build t ps=>exact ahu h (fun v hv=>yd_build h hv) hv
 |load t x=>exact ahu h (fun v hv=>yd_load h hv) hv
 |nilCheck x=>exact ahu h (fun v hv=>yd_nil h hv) hv
 |binOp b t x y t'=>exact ahu h (fun v hv=>yd_bin h hv) hv
 |unOp u t x=>exact ahu h (fun v hv=>yd_not h hv) hv
 |makeFunc f a b=>exact ahu h (fun v hv=>yd_func h hv) hv
 |slice t x lo hi mx=>exact ahu h (fun v hv=>yd_slice h hv) hv
 |fieldAddr t x f=>exact ahu h (fun v hv=>yd_fieldAddr h hv) hv
 |field t x f=>exact ahu h (fun v hv=>yd_field h hv) hv
 |indexAddr t x ix=>exact ahu h (fun v hv=>yd_indexAddr h hv) hv
 |index t x ix=>exact ahu h (fun v hv=>yd_index h hv) hv
 |extract x i=>exact ahu h (fun v hv=>yd_extract h hv) hv
 |_=>exact ahu h (fun v hv=>gen_ok h hv) hv
end
end Go.Ce
