/-
  The law ProxyKnown holds: the card of its second form (part 2 of 23).
-/
import Derived.Test.YtogikccgcnhofaaGreatDoorJk1
import Derived.Laws.IdiomCopy
import Derived.Lib.Overlaps
import Derived.Lib.Join
set_option linter.constructorNameAsVariable false
set_option linter.unusedVariables false
set_option linter.unusedSimpArgs false
namespace Go.Ce
open Go.Wk
open Bool renaming eq_iff_iff -> zau
open List renaming length_map -> zaf, map_cons -> zal, mem_cons_of_mem -> zag, mem_cons_self -> zah
open Nat renaming beq -> zac, ble -> zad
open Option renaming rec -> zaa
open UInt8 renaming ofNat -> zan
section
variable {C : Cx} {m : M} {S : T} {n : Md} {w0 w : World} {E : En}
variable {d : Option Nat} {ty : TypeId} {pos : String} {after : Array Edge} {gd : Option (Nat × Bool)}
theorem yd_move(h:Sd C m S n w0 E w){x:Operand}{v:SV}(hv:evO m S x=some v):Yd C S n E w ⟨d,.move x,ty,pos,after,gd⟩ v:=by
 obtain⟨hx,hok⟩:=abh h hv;exact⟨by rw [<-hx];rfl,hok⟩
theorem yd_assign(h:Sd C m S n w0 E w){x:Operand}{v:SV}(hv:evO m S x=some v):Yd C S n E w ⟨d,.assign x,ty,pos,after,gd⟩ v:=by
 obtain⟨hx,hok⟩:=abh h hv;exact⟨by rw [<-hx];rfl,hok⟩
theorem yd_extract(h:Sd C m S n w0 E w){x:Operand}{i:Nat}{v:SV}(hv:opExtract m S x i=some v):Yd C S n E w ⟨d,.extract x i,ty,pos,after,gd⟩ v:=by
 obtain⟨y,h1,hv⟩:=aaa hv;obtain⟨l,h2,hv⟩:=aaa hv;obtain⟨z,h3,hv⟩:=aaa hv;cases hv
 rw [lget_eq]at h3;obtain⟨hx,hok⟩:=abh h h1;obtain rfl:=asT_ok h2;have hx':evn n (rF E S.F) x=.tuple (l.map (SA.re E)).toArray:=hx;refine⟨?_,SA.sv_ok (hok z (List.mem_of_getElem? h3))⟩
 simp [execOp,hx',Instr.extract,h3,SA.sv_r]
theorem yd_pick(h:Sd C m S n w0 E w){c a b:Operand}{v:SV}(hv:opPick m S c a b=some v):Yd C S n E w ⟨d,.pick c a b,ty,pos,after,gd⟩ v:=by
 obtain⟨y,h1,hv⟩:=aaa hv;obtain⟨t,h2,hv⟩:=aaa hv;obtain rfl:=asB_ok h2;have hc:evn n (rF E S.F) c=.bool t:=(aaj h h1).1;cases t with
 |true=>
  obtain⟨hx,hok⟩:=abh h (show evO m S a=some v from hv);exact⟨by simp [execOp,hc,asBool,hx],hok⟩
 |false=>
  obtain⟨hx,hok⟩:=abh h (show evO m S b=some v from hv);exact⟨by simp [execOp,hc,asBool,hx],hok⟩
theorem yd_nil(h:Sd C m S n w0 E w){x:Operand}{v:SV}(hv:opNil m S x=some v):Yd C S n E w ⟨d,.nilCheck x,ty,pos,after,gd⟩ v:=by
 obtain⟨y,h1,hv⟩:=aaa hv;obtain⟨hx,hok⟩:=aaj h h1;cases y with
 |p i off=>
  have e:SV.c (.p i off)=v:=Option.some.inj hv;subst e;have hx':evn n (rF E S.F) x=.pointer (some ⟨(E i).1,off,none⟩):=hx;exact⟨by simp [execOp,hx',SV.re,SC.re],hok⟩
 |g i off=>
  have e:SV.c (.g i off)=v:=Option.some.inj hv;subst e;have hx':evn n (rF E S.F) x=.pointer (some ⟨i,off,none⟩):=hx;exact⟨by simp [execOp,hx',SV.re,SC.re],hok⟩
 |fn f l=>
  have e:SV.c (.fn f l)=v:=Option.some.inj hv;subst e;have hx':evn n (rF E S.F) x=SC.re E (.fn f l):=hx;exact⟨by simp [execOp,hx',SV.re,SC.re],hok⟩
 |_=>cases hv
theorem not_lt_dec(a c:Int):(!decide (a<c))=decide (c<=a):=by
 rw [zau];simp [Int.not_lt]
theorem ofInt_wrap(k:IntKind)(a:Nat):(BitVec.ofInt k.bits (k.wrap (a:Int))).toNat=a%km k:=by
 rw [BitVec.toNat_ofInt];cases k<;>simp [IntKind.wrap,IntKind.bits,IntKind.signed,km]<;>omega
theorem wrap_res(k:IntKind)(a:Nat):(k.wrap (a:Int)%2^k.bits).toNat=a%km k:=by
 have:=ofInt_wrap k a
 rw [BitVec.toNat_ofInt]at this;simpa using this
theorem binI_run{b:BinOp}{k:IntKind}{a c:Nat}{r:SC}{t t':TypeId}{x y:Operand}(hv:binI b k a c=some r){F:Nat->Value}(hx:evn n F x=.int k (k.wrap a))(hy:evn n F y=.int k (k.wrap c)):
  (execOp (evn n F) (⟨d,.binOp b t x y t',ty,pos,after,gd⟩:Oper)).run C.P w=.ok (.value (r.re E)) w/\∀i,r.ok i:=by
 rw [ex_eq];cases b with
 |add=>
  have e:SC.i k ((a+c)%km k)=r:=Option.some.inj hv;subst e;exact⟨by rw [x_add k _ _ hx hy];simp only [SC.re];rw [wrap_add],fun _=>trivial⟩
 |sub=>
  have e:SC.i k ((a+(km k-c%km k))%km k)=r:=Option.some.inj hv;subst e;exact⟨by rw [x_sub k _ _ hx hy];simp only [SC.re];rw [wrap_sub],fun _=>trivial⟩
 |mul=>
  have e:SC.i k ((a*c)%km k)=r:=Option.some.inj hv;subst e;exact⟨by rw [x_mul k _ _ hx hy];simp only [SC.re];rw [wrap_mul],fun _=>trivial⟩
 |lss=>cases hv;exact⟨by rw [x_lss k _ _ hx hy];simp only [SC.re];rw [ilt_eq],fun _=>trivial⟩
 |leq=>
  cases hv
  exact⟨by rw [x_leq k _ _ hx hy];simp only [SC.re,inot_eq];rw [ilt_eq,not_lt_dec],fun _=>trivial⟩
 |gtr=>cases hv;exact⟨by rw [x_gtr k _ _ hx hy];simp only [SC.re];rw [ilt_eq],fun _=>trivial⟩
 |geq=>
  cases hv
  exact⟨by rw [x_geq k _ _ hx hy];simp only [SC.re,inot_eq];rw [ilt_eq,not_lt_dec],fun _=>trivial⟩
 |eql=>cases hv;exact⟨by rw [x_eql k _ _ hx hy];simp only [SC.re];rw [ieqN_eq],fun _=>trivial⟩
 |neq=>cases hv;exact⟨by rw [x_neq k _ _ hx hy];simp only [SC.re,inot_eq];rw [ieqN_eq],fun _=>trivial⟩
 |and=>cases hv;exact⟨by simp [execOp,hx,hy,binOp,eqGuard,Op.intBits,SC.re];rw [wrap_res,wrap_res];rfl,fun _=>trivial⟩
 |or=>cases hv;exact⟨by simp [execOp,hx,hy,binOp,eqGuard,Op.intBits,SC.re];rw [wrap_res,wrap_res];rfl,fun _=>trivial⟩
 |xor=>cases hv;exact⟨by simp [execOp,hx,hy,binOp,eqGuard,Op.intBits,SC.re];rw [wrap_res,wrap_res];rfl,fun _=>trivial⟩
 |_=>cases hv
theorem wrap_res'(k:IntKind)(a:Nat)(h:a%km k<kh k):k.wrap (a:Int)=((a%km k:Nat):Int):=by
 rw [<-abk,ures_eq,if_neg (by omega)];rfl
theorem kb_eq(k:IntKind):kb k=k.bits:=by cases k<;>rfl
theorem kb_kh(k k':IntKind):kb k<kh k':=by cases k<;>cases k'<;>decide
theorem binSh_run{b:BinOp}{k k':IntKind}{a c:Nat}{r:SC}{t t':TypeId}{x y:Operand}(hv:binSh b k a k' c=some r){F:Nat->Value}(hx:evn n F x=.int k (k.wrap a))(hy:evn n F y=.int k' (k'.wrap c)):
  (execOp (evn n F) (⟨d,.binOp b t x y t',ty,pos,after,gd⟩:Oper)).run C.P w=.ok (.value (r.re E)) w/\∀i,r.ok i:=by
 rw [ex_eq];cases b with
 |shl=>
  obtain⟨h1,h2⟩:=aab (show bi (zad (c%km k') (kb k)) (some (SC.i k ((a*2^(c%km k'))%km k))) none=some r from hv);cases h2
  rw [aac]at h1;have e:=wrap_res' k' c (by have:=kb_kh k k';omega);have h0:(0:Int)<=k'.wrap c:=by rw [e];omega
  have hp:(2:Int)^(min (k'.wrap c).toNat k.bits)=((2^(c%km k'):Nat):Int):=by
   rw [e,Int.toNat_natCast,<-kb_eq,Nat.min_eq_left h1];simp
  refine⟨?_,fun _=>trivial⟩
  rw [x_shl k k' _ _ _ hx hy h0 hp];simp only [SC.re];rw [wrap_mulN]
 |shr=>
  obtain⟨h1,h2⟩:=aab (show bi (zad (c%km k') (kb k)) (bi (zad (a%km k+1) (kh k)) (some (SC.i k ((a%km k)/2^(c%km k')))) none) none=some r from hv);obtain⟨h3,h2⟩:=aab h2;cases h2
  rw [aac]at h1 h3;have e:=wrap_res' k' c (by have:=kb_kh k k';omega);have e':=wrap_res' k a (by omega);have h0:(0:Int)<=k'.wrap c:=by rw [e];omega
  have hp:(2:Int)^(min (k'.wrap c).toNat k.bits)=((2^(c%km k'):Nat):Int):=by
   rw [e,Int.toNat_natCast,<-kb_eq,Nat.min_eq_left h1];simp
  refine⟨?_,fun _=>trivial⟩
  rw [x_shr k k' _ _ _ hx hy h0 hp (by exact_mod_cast Nat.pow_pos (by decide)),e'];simp only [SC.re];have h4:(a%km k)/2^(c%km k')<kh k:=Nat.lt_of_le_of_lt (Nat.div_le_self _ _) (by omega);rw [wrap_small h4,Int.natCast_ediv]
 |_=>cases hv
theorem binS_run{b:BinOp}{l x0 m0 y0:Nat}{r:SC}{t t':TypeId}{x y:Operand}(hv:binS b l x0 m0 y0=some r){F:Nat->Value}(hx:evn n F x=str (dec l x0))(hy:evn n F y=str (dec m0 y0)):
  (execOp (evn n F) (⟨d,.binOp b t x y t',ty,pos,after,gd⟩:Oper)).run C.P w=.ok (.value (r.re E)) w/\∀i,r.ok i:=by
 rw [ex_eq];cases b with
 |eql=>cases hv;exact⟨by rw [x_streq _ _ hx hy];simp only [SC.re];rw [seq_eq],fun _=>trivial⟩
 |neq=>cases hv;exact⟨by rw [x_strne _ _ hx hy];simp only [SC.re,inot_eq];rw [seq_eq],fun _=>trivial⟩
 |lss=>cases hv;exact⟨by rw [x_strlt _ _ hx hy];simp only [SC.re],fun _=>trivial⟩
 |gtr=>
  cases hv
  refine⟨by rw [x_strgt _ _ hx hy];simp only [SC.re,inot_eq];rw [seq_eq];congr 5;rw [zau];simp,fun _=>trivial⟩
 |add=>
  obtain⟨h1,h2⟩:=aab (show bi (zad (l+m0) 1000000000000) (some (scat l x0 m0 y0)) none=some r from hv);cases h2
  rw [aac]at h1;refine⟨?_,fun _=>trivial⟩
  rw [x_strcat _ _ hx hy (by rw [aai,aai];omega)];rw [dec_app];rfl
 |_=>cases hv
theorem yd_bin(h:Sd C m S n w0 E w){b:BinOp}{t t':Nat}{x y:Operand}{v:SV}(hv:opBin C m S ⟨d,.binOp b t x y t',ty,pos,after,gd⟩ b t x y=some v):Yd C S n E w ⟨d,.binOp b t x y t',ty,pos,after,gd⟩ v:=by
 unfold opBin at hv;cases hb:(ob (evC m S x) fun vx=>ob (evC m S y) fun vy=>binX C b t vx vy)with
 |none=>rw [hb]at hv;exact gen_ok h hv
 |some u=>
  rw [hb]at hv;obtain rfl:u=v:=Option.some.inj hv;obtain⟨vx,h1,hb⟩:=aaa hb;obtain⟨vy,h2,hb⟩:=aaa hb;have hx:=(aaj h h1).1;have hy:=(aaj h h2).1;unfold binX at hb;cases hs:vx.isSl with
  |true=>
   rw [hs]at hb;obtain⟨h3,hb⟩:=aab (show bi vy.isNs (ob (tSl C t) fun _=>ob (isEq b) fun r=>some (SV.c (.b r))) none=some u from hb);obtain⟨e,h4,hb⟩:=aaa hb;obtain⟨r,h5,hb⟩:=aaa hb;cases hb
   have ht:=aak h4;cases vx with
   |sl i base k c=>
    cases vy with
    |ns=>
     have hx':evn n (rF E S.F) x=.slice (some ⟨(E i).1,base,none⟩) k (c.re E i):=hx;have hy':evn n (rF E S.F) y=.slice none 0 0:=hy;have e1:=run_equal_slice_nil (P:=C.P) w t e (some ⟨(E i).1,base,none⟩) k (c.re E i) ht;refine⟨?_,trivial⟩
     cases b with
     |eql=>cases h5;simp [execOp,hx',hy',eqGuard,binOp,e1,SV.re,SC.re]
     |neq=>cases h5;simp [execOp,hx',hy',eqGuard,binOp,e1,SV.re,SC.re]
     |_=>cases h5
    |_=>cases h3
   |z i base dd off=>
    cases vy with
    |ns=>
     have hx':evn n (rF E S.F) x=.slice (some ⟨(E i).1,if(E i).2-off=0 then base else base+dd,none⟩) 0 ((E i).2-off):=hx;have hy':evn n (rF E S.F) y=.slice none 0 0:=hy;have e1:=run_equal_slice_nil (P:=C.P) w t e (some ⟨(E i).1,if(E i).2-off=0 then base else base+dd,none⟩) 0 ((E i).2-off) ht;refine⟨?_,trivial⟩
     cases b with
     |eql=>cases h5;simp [execOp,hx',hy',eqGuard,binOp,e1,SV.re,SC.re]
     |neq=>cases h5;simp [execOp,hx',hy',eqGuard,binOp,e1,SV.re,SC.re]
     |_=>cases h5
    |_=>cases h3
   |_=>cases hs
  |false=>
   rw [hs]at hb;obtain⟨r,h3,hb⟩:=aaa (show(ob (bin b vx vy) fun r=>some (SV.c r))=some u from hb);cases hb
   unfold bin at h3;cases hi:vx.asI with
   |some p=>
    rw [hi]at h3;obtain⟨q,h4,h3⟩:=aaa h3;obtain⟨k,a⟩:=p;obtain⟨k',c⟩:=q;obtain rfl:=asI_ok hi;obtain rfl:=asI_ok h4;have h3:(zaa (bi (zac (kn k) (kn k')) (binI b k a c) none) some (binSh b k a k' c):Option SC)=some r:=h3;cases hsh:binSh b k a k' c with
    |some u=>
     rw [hsh]at h3;obtain rfl:u=r:=Option.some.inj h3;obtain⟨h6,h7⟩:=binSh_run (C:=C) (w:=w) (E:=E) (n:=n) (d:=d) (ty:=ty) (pos:=pos) (after:=after) (gd:=gd) (t:=t) (t':=t') hsh hx hy;exact⟨h6,h7 _⟩
    |none=>
    rw [hsh]at h3;obtain⟨h5,h3b⟩:=aab h3;have hk:=kn_inj h5;subst hk;obtain⟨h6,h7⟩:=binI_run (C:=C) (w:=w) (E:=E) (n:=n) (d:=d) (ty:=ty) (pos:=pos) (after:=after) (gd:=gd) (t:=t) (t':=t') h3b hx hy;exact⟨h6,h7 _⟩
   |none=>
    rw [hi]at h3;obtain⟨p,h4,h3⟩:=aaa h3;obtain⟨q,h5,h3b⟩:=aaa h3;obtain rfl:=asS_ok h4;obtain rfl:=asS_ok h5;obtain⟨h6,h7⟩:=binS_run (C:=C) (w:=w) (E:=E) (n:=n) (d:=d) (ty:=ty) (pos:=pos) (after:=after) (gd:=gd) (t:=t) (t':=t') h3b hx hy;exact⟨h6,h7 _⟩
theorem yd_not(h:Sd C m S n w0 E w){u:UnOp}{t:Nat}{x:Operand}{v:SV}(hv:opNot C m S ⟨d,.unOp u t x,ty,pos,after,gd⟩ u x=some v):Yd C S n E w ⟨d,.unOp u t x,ty,pos,after,gd⟩ v:=by
 cases u with
 |not=>
  obtain⟨y,h1,hv⟩:=aaa (show(ob (evC m S x) fun v=>ob v.asB fun b=>some (SV.c (.b (inot b))))=some v from hv);obtain⟨b,h2,hv⟩:=aaa hv;cases hv
  obtain rfl:=asB_ok h2;have hx:evn n (rF E S.F) x=.bool b:=(aaj h h1).1;refine⟨?_,trivial⟩
  rw [ex_eq,x_not b hx];simp only [SV.re,SC.re,inot_eq]
 |_=>exact gen_ok h hv
theorem fillZ:∀(off:Nat) (vs cells:List Value) (k:Nat),off+k+vs.length<=cells.length->
  (vs.zipIdx k).foldl (fun cs (p:Value×Nat)=>cs.setIfInBounds (off+p.2) p.1) cells.toArray=(cells.take (off+k)++vs++cells.drop (off+k+vs.length)).toArray
 |off,[],cells,k,h=>by simp
 |off,v::vs,cells,k,h=>by
  simp only [List.length_cons]at h;simp only [List.zipIdx_cons,List.foldl_cons];have e:(cells.toArray.setIfInBounds (off+k) v)=(cells.set (off+k) v).toArray:=by simp
  rw [e,fillZ off vs (cells.set (off+k) v) (k+1) (by simp;omega)];congr 1
  have h1:(cells.set (off+k) v).take (off+(k+1))=cells.take (off+k)++[v]:=by
   rw [List.set_eq_take_append_cons_drop,if_pos (by omega)];have hl:(cells.take (off+k)).length=off+k:=by simp;omega
   rw [List.take_append,hl,List.take_of_length_le (by rw [hl];omega),show off+(k+1)-(off+k)=1 by omega];simp
  have h2:(cells.set (off+k) v).drop (off+(k+1)+vs.length)=cells.drop (off+k+(vs.length+1)):=by
   rw [List.drop_set_of_lt (by omega)];congr 1;omega
  rw [h1,h2];simp
theorem map_lput{α β:Type}(f:α->β)(xs:List α)(k:Nat)(vs:List α)(h:k+vs.length<=xs.length):(lput xs k vs).map f=(xs.map f).take k++vs.map f++(xs.map f).drop (k+vs.length):=by
 rw [lput_eq _ _ _ h];simp
theorem fill_ok(pl:Nat->Option (Nat×Nat))(K:Nat):∀(parts:List (Nat×SV)) (cs r:List SC),(∀p∈parts,p.2.ok K)->(∀x∈cs,x.ok K)->fillC pl parts cs=some r->
  Instr.fill pl (cs.map (SC.re E)).toArray (parts.map fun p=>(p.1,p.2.re E))=some (r.map (SC.re E)).toArray/\r.length=cs.length/\∀x∈r,x.ok K
 |[],cs,r,_,hc,h=>by
  have e:cs=r:=Option.some.inj h;subst e;exact⟨rfl,rfl,hc⟩
 |(i,v)::parts,cs,r,hp,hc,h=>by
  obtain⟨q,h1,h⟩:=aaa h;obtain⟨vs,h2,h⟩:=aaa h;obtain⟨h3,h⟩:=aab h;obtain⟨h4,h⟩:=aab h;rw [aad,aag]at h3;rw [aac,aag,aag]at h4;have h4':q.1+vs.length<=cs.length:=h4;have hv:=hp (i,v) (zah);obtain⟨h5,h6,h7⟩:=fill_ok pl K parts (lput cs q.1 vs) r (fun p hm=>hp p (zag _ hm)) (lput_mem cs q.1 vs h4' _ hc (SV.cells_ok h2 hv)) h;refine⟨?_,by rw [h6,lput_len _ _ _ h4'],h7⟩
  obtain⟨off,size⟩:=q;simp only [zal,Instr.fill,h1];have hcell:=SV.cells_r (E:=E) h2;have hsz:(v.re E).cells.size=vs.length:=by rw [hcell];simp
  have hc2:¬(((v.re E).cells.size≠size||decide (off+(v.re E).cells.size>(cs.map (SC.re E)).toArray.size))=true):=by
   rw [hsz];simp only at h3 h4';simp [h3];omega
  rw [if_neg hc2,<-h5];congr 1
  rw [hcell];have hz:=fillZ off (vs.map (SC.re E)) (cs.map (SC.re E)) 0 (by simp;exact h4');simp only [Nat.add_zero,zaf]at hz;rw [map_lput _ _ _ _ h4'];simp only [zaf]at hz⊢;rw [<-hz,<-Array.foldl_toList];simp [Array.toList_zipIdx]
theorem evParts_ok(h:Sd C m S n w0 E w):∀{ps:List (Nat×Operand)} {l:List (Nat×SV)},evParts m S ps=some l->(ps.map fun p=>(p.1,evn n (rF E S.F) p.2))=(l.map fun p=>(p.1,p.2.re E))/\∀p∈l,p.2.ok S.H.nx
 |[],l,hv=>by
  have e:[]=l:=Option.some.inj hv;subst e;simp
 |p::ps,l,hv=>by
  obtain⟨v,h1,hv⟩:=aaa hv;obtain⟨q,h2,hv⟩:=aaa hv;cases hv
  obtain⟨h3,h4⟩:=evParts_ok h (show evParts m S ps=some q from h2);obtain⟨h5,h6⟩:=abh h h1;refine⟨by simp [h3,h5],fun y hy=> ?_⟩
  rcases List.mem_cons.1 hy with rfl|hy
  ·exact h6
  ·exact h4 y hy
theorem placesL_ok:∀{fs:List Field} {l:List (Nat×Nat)},placesL C fs=some l->(fs.mapM fun f=>(do pure (f.offset,<-sizeOf f.type):Sem (Nat×Nat))).run C.P w=.ok l w
 |[],l,hv=>by
  have e:[]=l:=Option.some.inj hv;subst e;simp
 |f::fs,l,hv=>by
  obtain⟨z,h1,hv⟩:=aaa hv;obtain⟨q,h2,hv⟩:=aaa hv;cases hv
  have ih:=placesL_ok (show placesL C fs=some q from h2);rw [List.mapM_cons];simp only [Sem.run_bind,aaq h1 w,Result.andThen_ok,Sem.run_pure,ih]
theorem yd_build(h:Sd C m S n w0 E w){t:Nat}{ps:Array (Nat×Operand)}{v:SV}(hv:opBuild C m S t ps=some v):Yd C S n E w ⟨d,.build t ps,ty,pos,after,gd⟩ v:=by
 obtain⟨l,h1,hv⟩:=aaa hv;obtain⟨z,h2,hv⟩:=aaa hv;obtain⟨pl,h3,hv⟩:=aaa hv;obtain⟨cs,h4,hv⟩:=aaa hv;cases hv
 obtain⟨zv,h5,h6,h7⟩:=abq h2 E S.H.nx w;obtain⟨h8,h9⟩:=evParts_ok h h1;obtain⟨h10,_,h11⟩:=fill_ok (E:=E) pl S.H.nx l z cs h9 h7 h4;have hparts:(ps.map fun p=>(p.1,evn n (rF E S.F) p.2)).toList=l.map fun p=>(p.1,p.2.re E):=by rw [<-h8];simp
 refine⟨?_,h11⟩
 unfold places at h3;cases hs:tSt C t with
 |some fs=>
  rw [hs]at h3;obtain⟨lp,h12,h3⟩:=aaa h3;cases h3
  have hm:=placesL_ok (w:=w) h12;have hpl:(fun i=>lget lp i)=fun i=>lp.toArray[i]? :=by funext i;rw [lget_eq];simp
  rw [hpl]at h10;simp only [execOp,Instr.build,Sem.run_bind,h5,Result.andThen_ok,run_underlying (tSt_ok hs),h6,List.mapM_toArray,Sem.run_map,hm,Sem.run_pure];rw [hparts,h10];rfl
 |none=>
  rw [hs]at h3;obtain⟨q,h12,h3⟩:=aaa h3;obtain⟨sz,h13,h3⟩:=aaa h3;cases h3
  simp only [execOp,Instr.build,Sem.run_bind,h5,Result.andThen_ok,run_underlying (tAr_ok h12),h6,aaq h13 w];rw [hparts];have h10':Instr.fill (fun i=>some (i*sz,sz)) (z.map (SC.re E)).toArray (l.map fun p=>(p.1,p.2.re E))=some (cs.map (SC.re E)).toArray:=h10;rw [h10'];rfl
theorem capIds_ok(h:Sd C m S n w0 E w):∀{l:List Operand} {ids:List Nat},capIds m S l=some ids->(l.map (evn n (rF E S.F)))=(ids.map fun i=>Value.pointer (some ⟨(E i).1,0,none⟩))/\∀i∈ids,i<S.H.nx
 |[],ids,hv=>by
  have e:[]=ids:=Option.some.inj hv;subst e;simp
 |x::l,ids,hv=>by
  obtain⟨v,h1,hv⟩:=aaa hv;obtain⟨p,h2,hv⟩:=aaa hv;obtain⟨h3,hv⟩:=aab hv;obtain⟨q,h4,hv⟩:=aaa hv;cases hv
  rw [aad]at h3;obtain⟨i,off⟩:=p;obtain rfl:=asP_ok h2;have h3':off=0:=h3;subst h3';obtain⟨h5,h6⟩:=aaj h h1;obtain⟨h7,h8⟩:=capIds_ok h (show capIds m S l=some q from h4);refine⟨by simp [h5,h7,SC.re],fun y hy=> ?_⟩
  rcases List.mem_cons.1 hy with rfl|hy
  ·exact h6
  ·exact h8 y hy
theorem yd_func(h:Sd C m S n w0 E w){f:Fn}{a b:Array Operand}{v:SV}(hv:opFunc m S f a b=some v):Yd C S n E w ⟨d,.makeFunc f a b,ty,pos,after,gd⟩ v:=by
 obtain⟨k,h1,hv⟩:=aaa hv;obtain⟨h2,hv⟩:=aab hv;obtain⟨l,h3,hv⟩:=aaa hv;cases hv
 obtain⟨h4,h5⟩:=capIds_ok h h3;refine⟨?_,h5⟩
 cases f with
 |func k'=>
  obtain rfl:k'=k:=Option.some.inj h1;have ha:a= #[]:=by
   obtain⟨l⟩:=a;cases l with
   |nil=>rfl
   |cons x l=>cases h2
  subst ha;have hb:b.map (evn n (rF E S.F))=(l.map fun i=>Value.pointer (some ⟨(E i).1,0,none⟩)).toArray:=by
   rw [<-h4];exact Array.toList_inj.1 (by rw [Array.toList_map])
  simp only [execOp,Instr.makeFunc,hb,SV.re,SC.re,List.map_toArray,List.map_nil];rfl
 |_=>cases h1
theorem only_ok{α:Type}{l:List α}{x:α}(h:only l=some x):l=[x]:=by
 cases l with
 |nil=>cases h
 |cons y l=>
  obtain⟨h1,h2⟩:=aab (show bi l.isEmpty (some y) none=some x from h);cases h2
  cases l with
  |nil=>rfl
  |cons z l=>cases h1
theorem abi{α:Type}{a:Array α}{l:List α}(h:a.toList=l):a=l.toArray:=by subst h;rfl
theorem yd_len(h:Sd C m S n w0 E w){azq:Array Operand}{ts:Array TypeId}{v:SV}(hv:opLen C m S ⟨d,.call ⟨.builtin .len,azq,ts⟩,ty,pos,after,gd⟩ ⟨.builtin .len,azq,ts⟩=some v):Yd C S n E w ⟨d,.call ⟨.builtin .len,azq,ts⟩,ty,pos,after,gd⟩ v:=by
 unfold opLen at hv;cases hb:(ob (only azq.toList) fun x=>ob (only ts.toList) fun t=>ob (evC m S x) fun v=>(zaa
  (ob (slLen v) fun n=>ob (tSl C t) fun _=>iOf .i64 n)
  (fun q=>ob (tStr C t) fun _=>iOf .i64 q.1) v.asS:Option SV))with
 |none=>rw [hb]at hv;exact gen_ok h hv
 |some u=>
  rw [hb]at hv;obtain rfl:u=v:=Option.some.inj hv;obtain⟨x,h1,hb⟩:=aaa hb;obtain⟨t,h2,hb⟩:=aaa hb;obtain⟨y,h3,hb9⟩:=aaa hb;obtain rfl:=abi (only_ok h1);obtain rfl:=abi (only_ok h2);have hx:=(aaj h h3).1;unfold Yd;rw [ex_eq];cases hs:y.asS with
  |some q=>
   rw [hs]at hb9;obtain⟨_,h4,hb9⟩:=aaa hb9;obtain⟨h5,h6⟩:=iOf_ok hb9;obtain rfl:=asS_ok hs;refine⟨?_,by rw [h5];trivial⟩
   rw [x_len (dec q.1 q.2) (abu h4) hx,aai,h6]
  |none=>
   rw [hs]at hb9;obtain⟨k,h4,hb9⟩:=aaa hb9;obtain⟨e,h5,hb9⟩:=aaa hb9;obtain⟨h6,h7⟩:=iOf_ok hb9;refine⟨?_,by rw [h6];trivial⟩
   cases y with
   |sl i base k' c=>
    obtain rfl:k'=k:=Option.some.inj h4;rw [x_lenS (some ⟨(E i).1,base,none⟩) k' (c.re E i) e (aak h5) hx,h7]
   |z i base dd off=>
    obtain rfl:0=k:=Option.some.inj h4;rw [x_lenS _ 0 ((E i).2-off) e (aak h5) hx,h7]
   |_=>cases h4
theorem yd_cap(h:Sd C m S n w0 E w){azq:Array Operand}{ts:Array TypeId}{v:SV}(hv:opCap C m S ⟨d,.call ⟨.builtin .cap,azq,ts⟩,ty,pos,after,gd⟩ ⟨.builtin .cap,azq,ts⟩=some v):Yd C S n E w ⟨d,.call ⟨.builtin .cap,azq,ts⟩,ty,pos,after,gd⟩ v:=by
 unfold opCap at hv;cases hb:(ob (only azq.toList) fun x=>ob (only ts.toList) fun t=>ob (evC m S x) fun v=>ob (slCap v) fun n=>ob (tSl C t) fun _=>iOf .i64 n)with
 |none=>rw [hb]at hv;exact gen_ok h hv
 |some u=>
  rw [hb]at hv;obtain rfl:u=v:=Option.some.inj hv;obtain⟨x,h1,hb⟩:=aaa hb;obtain⟨t,h2,hb⟩:=aaa hb;obtain⟨y,h3,hb⟩:=aaa hb;obtain⟨k,h4,hb⟩:=aaa hb;obtain⟨e,h5,hb⟩:=aaa hb;obtain⟨h6,h7⟩:=iOf_ok hb;obtain rfl:=abi (only_ok h1);obtain rfl:=abi (only_ok h2);have hx:=(aaj h h3).1;refine⟨?_,by rw [h6];trivial⟩
  cases y with
  |sl i base k' c=>
   cases c with
   |k c=>
    obtain rfl:c=k:=Option.some.inj h4;have hx':evn n (rF E S.F) x=.slice (some ⟨(E i).1,base,none⟩) k' c:=hx;simp [execOp,resolve,invoke,builtin,hx',Builtin.cap_,run_underlying (aak h5),goInt,h7]
   |r off=>cases h4
  |_=>cases h4
theorem asU8_ok{x:SC}{c:Nat}(h:x.asU8=some c):c<256/\∀E:En,x.re E=bt (zan c):=by
 obtain⟨q,h1,h⟩:=aaa h;obtain⟨h2,h⟩:=aab h;cases h
 have hk:=kn_inj h2;obtain⟨k,a⟩:=q;simp only at hk;subst hk;obtain rfl:=asI_ok h1;have hlt:a%256<256:=Nat.mod_lt _ (by decide);refine⟨hlt,fun E=> ?_⟩
 show Value.int .u8 (IntKind.u8.wrap (a:Int))=Value.int .u8 ((zan (a%256)).toNat:Int);rw [bytes_lt _ hlt,IntKind.wrap_u8];rfl
theorem encC_ok:∀{l:List SC} {q:Nat},encC l=some q->∀E:En,l.map (SC.re E)=(dec l.length q).map bt
 |[],q,h,E=>rfl
 |x::l,q,h,E=>by
  obtain⟨c,h1,h⟩:=aaa h;obtain⟨r,h2,h⟩:=aaa h;have e:c+256*r=q:=Option.some.inj h;subst e;obtain⟨h3,h4⟩:=asU8_ok h1;have ih:=encC_ok (show encC l=some r from h2) E;have e1:(c+256*r)%256=c:=by omega
  have e2:(c+256*r)/256=r:=by omega
  simp only [zal,List.length_cons,dec,e1,e2,ih,h4]
theorem yd_conv(h:Sd C m S n w0 E w){s t:Nat}{x:Operand}{v:SV}(hv:opConv C m S ⟨d,.convert s t x,ty,pos,after,gd⟩ s t x=some v):Yd C S n E w ⟨d,.convert s t x,ty,pos,after,gd⟩ v:=by
 unfold opConv at hv;cases hb:ob (evC m S x) (convC C S s t)with
 |none=>rw [hb]at hv;exact gen_ok h hv
 |some u=>
  rw [hb]at hv;obtain rfl:u=v:=Option.some.inj hv;obtain⟨y,h1,hb⟩:=aaa hb;obtain⟨hx,hok⟩:=aaj h h1;unfold Yd;rw [ex_eq];cases y with
  |i k a=>
   obtain⟨k0,h2,hb⟩:=aaa (show(ob (tIn C s) fun k0=>ob (tIn C t) fun k'=>bi (zac (kn k) (kn k0)) (some (SV.c (.i k' (conI k k' a)))) none)=some u from hb);obtain⟨k',h3,hb⟩:=aaa hb;obtain⟨h4,hb⟩:=aab hb;cases hb
   have hk:=kn_inj h4;subst hk;refine⟨?_,trivial⟩
   rw [x_conv k' k _ (tIn_ok h2) (tIn_ok h3) hx];simp only [SV.re,SC.re,conI_eq]
  |s l q=>
   obtain⟨_,h2,hb⟩:=aaa (show(ob (tStr C s) fun _=>ob (tStr C t) fun _=>some (SV.c (.s l q)))=some u from hb);obtain⟨_,h3,hb⟩:=aaa hb;cases hb
   exact⟨x_convstr (dec l q) (abu h2) (abu h3) hx,trivial⟩
  |z i base dd off=>
   obtain⟨e,h2,hb⟩:=aaa (show(ob (tSl C s) fun e=>ob (tStr C t) fun _=>ob (isU8 C e) fun _=>some (SV.c (.s 0 0)))=some u from hb);obtain⟨_,h3,hb⟩:=aaa hb;obtain⟨_,h4,hb⟩:=aaa hb;cases hb
   have hR:Rd w (some ⟨(E i).1,if(E i).2-off=0 then base else base+dd,none⟩) (([]:Str).map bt):=by
    intro j u hu;cases hu
   refine⟨?_,trivial⟩
   exact x_tostr [] (some ⟨(E i).1,if(E i).2-off=0 then base else base+dd,none⟩) 0 ((E i).2-off) e hR rfl (aak h2) (abu h3) (isU8_ok h4) hx
  |sl i base k c=>
   obtain⟨e,h2,hb⟩:=aaa (show convL C S s t i base k=some u from hb);obtain⟨_,h3,hb⟩:=aaa hb;obtain⟨_,h4,hb⟩:=aaa hb;obtain⟨xs,h5,hb⟩:=aaa hb;obtain⟨h6,hb⟩:=aab hb;obtain⟨q,h7,hb⟩:=aaa hb;cases hb
   rw [aac,aag]at h6;have h6':base+k<=xs.length:=h6;obtain⟨h8,_⟩:=cellsOf_okk h h5;rw [abc,ldrop_eq]at h7;have h9:=encC_ok h7 E;have hlen:((xs.drop base).take k).length=k:=by simp;omega
   rw [hlen]at h9;have hR:Rd w (some ⟨(E i).1,base,none⟩) ((dec k q).map bt):=by
    intro j u hu;rw [<-h9,List.getElem?_map]at hu;obtain⟨y,hy,rfl⟩:=Option.map_eq_some_iff.1 hu;refine⟨_,rfl, ?_⟩
    rw [aan];rw [List.getElem?_take]at hy;split at hy
    ·rw [List.getElem?_drop]at hy;exact h8 _ y hy
    ·cases hy
   refine⟨?_,trivial⟩
   exact x_tostr (dec k q) (some ⟨(E i).1,base,none⟩) k (c.re E i) e hR (aai k q) (aak h2) (abu h3) (isU8_ok h4) hx
  |_=>cases hb
theorem yd_call(h:Sd C m S n w0 E w){c:Call}{v:SV}(hv:opCallV C m S ⟨d,.call c,ty,pos,after,gd⟩ c=some v):Yd C S n E w ⟨d,.call c,ty,pos,after,gd⟩ v:=by
 obtain⟨cl,azq,ts⟩:=c;unfold opCallV at hv;dsimp only at hv;split at hv
 ·exact yd_len h hv
 ·exact yd_cap h hv
 ·exact gen_ok h hv
theorem opV_ok(h:Sd C m S n w0 E w){o:Oper}{v:SV}(hv:opV o.op C m S o=some v):Yd C S n E w o v:=by
 obtain⟨d,op,ty,pos,after,gd⟩:=o;cases op with
 |move x=>exact yd_move h hv
 |assign x=>exact yd_assign h hv
 |pick c a b=>exact yd_pick h hv
 |build t ps=>exact yd_build h hv
 |load t x=>exact yd_load h hv
 |nilCheck x=>exact yd_nil h hv
 |binOp b t x y t'=>exact yd_bin h hv
 |unOp u t x=>exact yd_not h hv
 |convert s t x=>exact yd_conv h hv
 |makeFunc f a b=>exact yd_func h hv
 |slice t x lo hi mx=>exact yd_slice h hv
 |fieldAddr t x f=>exact yd_fieldAddr h hv
 |field t x f=>exact yd_field h hv
 |indexAddr t x ix=>exact yd_indexAddr h hv
 |index t x ix=>exact yd_index h hv
 |extract x i=>exact yd_extract h hv
 |call c=>exact yd_call h hv
 |_=>exact gen_ok h hv
end
open Go.Wk
open List renaming length_map -> zaf, map_append -> zav
open Nat renaming ble -> zad, le_refl -> zab, lt_succ_self -> zas
open UInt8 renaming ofNat -> zan
section
variable {C : Cx} {m : M} {S : T} {n : Md} {w0 w : World} {E : En} {H : Hs}
variable {d : Option Nat} {ty : TypeId} {pos : String} {after : Array Edge} {gd : Option (Nat × Bool)}
def aal(E:En):Option SV->Next
 |some v=>.value (v.re E)
 |none=>.skip
def vok(k:Nat):Option SV->Prop
 |some v=>v.ok k
 |none=>True
def Efx(C:Cx)(S:T)(n:Md)(w0:World)(E:En)(w:World)(o:Oper)(r:Option SV×Hs):Prop:=
 ∃E' w',Ag S.H.nx E E'/\S.H.nx<=r.2.nx/\Inv w0 E' r.2 w'/\vok r.2.nx r.1/\(execOp (evn n (rF E S.F)) o).run C.P w=.ok (aal E' r.1) w'
theorem aaz(h:Sd C m S n w0 E w){o:Oper}{x:Option SV}{r:Option SV×Hs}(hx:∀v,x=some v->Yd C S n E w o v)(hv:wVal S x=some r):Efx C S n w0 E w o r:=by
 obtain⟨v,h1,hv⟩:=aaa hv;cases hv
 obtain⟨h2,h3⟩:=hx v h1;exact⟨E,w,Ag.refl _ _,zab _,h.inv,h3,h2⟩
theorem hp_weak{L:List Res}{k:Nat}{r r':Res}(h:Hp w0 [] L w)(hk:L[k]? =some r)(ho:r'.own=r.own)(hr:r'.holds w):Hp w0 [] (L.set k r') w:=
 h.change k r r' hk rfl rfl rfl (zab _) (fun _ _ _=>rfl) hr (fun b hb=>by
  rw [ho]at hb;exact⟨.inl hb,((h.res _ (List.mem_of_getElem? hk)).2 b hb).1⟩)
theorem inv_new(h:Inv w0 E H w){o:Obj}{b:HB}{p:Nat×Nat}{w':World}(hp:p.1=w.heap.size)(hb:b.ok (H.nx+1))(ho:(resOf (eat E H.nx p) H.nx b).own=some w.heap.size)(hr:(resOf (eat E H.nx p) H.nx b).ok (some o))
  (hw:w'={w with drawn:=w'.drawn,heap:=w.heap.push o}):Inv w0 (eat E H.nx p) (H.add b) w':=by
 refine h.add (aav E H.nx p) hb ?_;have h2:Hp w [] [resOf (eat E H.nx p) H.nx b] w':=by
  have e1:w'.heap=w.heap.push o:=by rw [hw]
  refine⟨by rw [hw],by rw [hw],by rw [hw],by rw [e1];simp,fun k hk _=>by rw [e1,Array.getElem?_push,if_neg (by omega)],fun r hr'=> ?_,by simp⟩
  simp at hr'
  subst hr';refine⟨?_,fun k hk=> ?_⟩
  ·unfold Res.holds;rw [ho];simpa [e1] using hr
  ·rw [ho]at hk;cases hk
   simp [e1]
 exact h.hp.callL h2
theorem okUp{l:List SC}{k:Nat}(h:∀x∈l,x.ok k):∀x∈l,x.ok (k+1):=fun x hx=>SC.up (Nat.le_succ k) (h x hx)
theorem inv_blk(h:Inv w0 E H w){t:Nat}{z:List SC}(hz:∀x∈z,x.ok H.nx):Inv w0 (eat E H.nx (w.heap.size,0)) (H.add (.cl t .ex z)) (w.alloc (.cells (z.map (SC.re E)).toArray t)):=by
 refine inv_new h rfl (okUp hz) ?_ ?_ rfl (o:=.cells (z.map (SC.re E)).toArray t)
 ·simp only [resOf,cres,aah]
 ·simp only [resOf,cres];rw [scs_ext (aav E H.nx _) hz];exact⟨_,t,(0,0),rfl,.inr rfl,by simp,List.take_of_length_le (by simp),by simp,rfl⟩
theorem ef_alloc(h:Sd C m S n w0 E w){t:Nat}{r:Option SV×Hs}(hv:wAlloc C S t=some r):Efx C S n w0 E w ⟨d,.alloc t,ty,pos,after,gd⟩ r:=by
 obtain⟨z,h1,hv⟩:=aaa hv;cases hv
 obtain⟨zv,h2,h3,h4⟩:=abq h1 E S.H.nx w;refine⟨_,_,aav E _ (w.heap.size,0),Nat.le_succ _,inv_blk h.inv h4,zas _, ?_⟩
 simp [execOp,Instr.alloc,h2,newVar,newRow,h3,aal,SV.re,SC.re,aah]
theorem ef_box(h:Sd C m S n w0 E w){t:Nat}{x:Operand}{r:Option SV×Hs}(hv:wBox m S t x=some r):Efx C S n w0 E w ⟨d,.box t x,ty,pos,after,gd⟩ r:=by
 obtain⟨v,h1,hv⟩:=aaa hv;obtain⟨z,h2,hv⟩:=aaa hv;cases hv
 obtain⟨h3,h4⟩:=abh h h1;refine⟨_,_,aav E _ (w.heap.size,0),Nat.le_succ _,inv_blk h.inv (SV.cells_ok h2 h4),zas _, ?_⟩
 have hc:=SV.cells_r (E:=E) h2;have hr:(execOp (evn n (rF E S.F)) (⟨d,.box t x,ty,pos,after,gd⟩:Oper)).run C.P w=.ok (.value (.pointer (some ⟨w.heap.size,0,none⟩))) (w.alloc (.cells (z.map (SC.re E)).toArray t)):=by
  simp [execOp,Instr.box,h3,newVar,newRow,hc]
 rw [hr];simp only [aal,SV.re,SC.re,aah]
theorem lrep_get(z:List SC):∀(k j:Nat),j<k*z.length->(lrep z k)[j]? =z[j%z.length]?
 |0,j,h=>by omega
 |k+1,j,h=>by
  show(lapp z (lrep z k))[j]? =_
  rw [abf];by_cases hj:j<z.length
  ·rw [List.getElem?_append_left hj,Nat.mod_eq_of_lt hj]
  ·rw [List.getElem?_append_right (by omega),lrep_get z k _ (by rw [Nat.succ_mul]at h;omega)];rw [<-Nat.mod_eq_sub_mod (by omega)]
theorem lrep_len(z:List SC):∀k,(lrep z k).length=k*z.length
 |0=>by show([]:List SC).length=_;simp
 |k+1=>by
  show(lapp z (lrep z k)).length=_
  rw [abf,List.length_append,lrep_len z k,Nat.succ_mul];omega
theorem lrep_mem{z:List SC}{p:SC->Prop}(hz:∀x∈z,p x):∀k,∀x∈lrep z k,p x
 |0,x,hx=>by cases hx
 |k+1,x,hx=>by
  have hx':x∈lapp z (lrep z k):=hx;rw [abf]at hx';rcases List.mem_append.1 hx' with h|h
  ·exact hz x h
  ·exact lrep_mem hz k x h
theorem made_eq{z:List SC}{k:Nat}{a:Array Value}(ha:a=(z.map (SC.re E)).toArray):(Array.range (k*z.length)).map (a[·%a.size]!)=((lrep z k).map (SC.re E)).toArray:=by
 subst ha;apply Array.ext
 ·simp [lrep_len]
 ·intro i h1 h2;have hi:i<k*z.length:=by simpa using h1
  have hz:0<z.length:=by
   rcases Nat.eq_zero_or_pos z.length with h|h
   ·rw [h]at hi;simp at hi
   ·exact h
  have hg:=lrep_get z k i hi;have hm:i%z.length<z.length:=Nat.mod_lt _ hz;have hl:i<(lrep z k).length:=by rw [lrep_len];exact hi
  rw [List.getElem?_eq_getElem hm,List.getElem?_eq_getElem hl]at hg;have hg':=Option.some.inj hg;simp only [Array.getElem_map,Array.getElem_range,List.getElem_toArray,List.getElem_map,hg'];simp [hm]
theorem ef_buildSlice(h:Sd C m S n w0 E w){t len:Nat}{ps:Array (Nat×Operand)}{r:Option SV×Hs}(hv:wBuildSlice C m S t len ps=some r):Efx C S n w0 E w ⟨d,.buildSlice t len ps,ty,pos,after,gd⟩ r:=by
 obtain⟨e,h1,hv⟩:=aaa hv;obtain⟨sz,h2,hv⟩:=aaa hv;obtain⟨h3,hv⟩:=aab hv;obtain⟨z,h4,hv⟩:=aaa hv;obtain⟨h5,hv⟩:=aab hv;obtain⟨l,h6,hv⟩:=aaa hv;obtain⟨cs,h7,hv⟩:=aaa hv;cases hv
 rw [aac]at h3;rw [aad,aag]at h5;obtain⟨zv,h8,h9,h10⟩:=abq h4 E S.H.nx w;obtain⟨h11,h12⟩:=evParts_ok h h6;obtain⟨h13,h14,h15⟩:=fill_ok (E:=E) (fun i=>some (i*sz,sz)) S.H.nx l (lrep z len) cs h12 (lrep_mem h10 len) h7;have hparts:(ps.map fun p=>(p.1,evn n (rF E S.F) p.2)).toList=l.map fun p=>(p.1,p.2.re E):=by rw [<-h11];simp
 refine⟨_,_,aav E _ (w.heap.size,0),Nat.le_succ _,inv_blk h.inv h15,zas _, ?_⟩
 have h16:¬len*sz>2^24:=by have h3':len*sz<=100000:=h3;omega
 have hmk:∀a:Array Value,(len*sz≠0->a=(z.map (SC.re E)).toArray)->(Array.range (len*sz)).map (a[·%a.size]!)=((lrep z len).map (SC.re E)).toArray:=by
  intro a ha;by_cases h0:len*sz=0
  ·have hl:(lrep z len).length=0:=by rw [lrep_len,h5,h0]
   have:lrep z len=[]:=List.eq_nil_of_length_eq_zero hl
   rw [h0,this];simp
  ·rw [<-h5];exact made_eq (ha h0)
 by_cases h0:len*sz=0
 ·have hm:=hmk #[] (fun h=>absurd h0 h);simp only [execOp,Instr.buildSlice,Sem.run_bind,run_underlying (aak h1),Result.andThen_ok,aaq h2 w];rw [if_neg h16,if_pos h0];simp only [Sem.run_bind,Sem.run_pure,Result.andThen_ok];rw [hparts,hm,h13];simp [newRow,aal,SV.re,SC.re,Cp.re,aah]
 ·have hm:=hmk zv.cells (fun _=>h9);simp only [execOp,Instr.buildSlice,Sem.run_bind,run_underlying (aak h1),Result.andThen_ok,aaq h2 w];rw [if_neg h16,if_neg h0];simp only [Sem.run_bind,h8,Sem.run_pure,Result.andThen_ok];rw [hparts,hm,h13];simp [newRow,aal,SV.re,SC.re,Cp.re,aah]
theorem ef_make(h:Sd C m S n w0 E w){t:Nat}{x y:Operand}{r:Option SV×Hs}(hv:wMake C m S t x y=some r):Efx C S n w0 E w ⟨d,.makeSlice t x y,ty,pos,after,gd⟩ r:=by
 obtain⟨e,h1,hv⟩:=aaa hv;obtain⟨l,h2,hv⟩:=aaa hv;obtain⟨c,h3,hv⟩:=aaa hv;obtain⟨i,h4,hv⟩:=aaa hv;obtain⟨h5,hv⟩:=aab hv;obtain⟨h6,hv⟩:=aab hv;obtain⟨h7,hv⟩:=aab hv;obtain⟨z,h8,hv⟩:=aaa hv;obtain⟨h9,hv⟩:=aab hv;cases hv
 rw [aac]at h5 h6 h7;rw [aad,aag]at h9;obtain⟨q,hl⟩:=evN_ok h h2;obtain⟨q',hc⟩:=evN_ok h h3;obtain⟨zv,h10,h11,h12⟩:=abq h8 E S.H.nx w;have hz:i.zero=some zv:=by
  simp only [zeroValue,typeInfo,Sem.run_bind]at h10;have hp:(program).run C.P w=.ok C.P w:=rfl;rw [hp]at h10;simp only [Result.andThen_ok,h4]at h10;cases hq:i.zero with
  |none=>simp [hq,unsupported]at h10
  |some u=>simp [hq]at h10;rw [h10]
 have h6':c*i.bytes<=1000000:=h6;have h7':c<=1000000:=h7;have hb:(i.bytes:Int)*(c:Int)<=281474976710656:=by
  have:((c*i.bytes:Nat):Int)<=1000000:=by omega
  rw [Int.natCast_mul,Int.mul_comm]at this;omega
 have hr:=run_make (P:=C.P) w t e i zv (aak h1) h4 hz q q' (l:Int) (c:Int) (by omega) (by omega) hb (by omega);refine⟨_,_,aav E _ (w.heap.size,0),Nat.le_succ _,inv_blk h.inv (lrep_mem h12 c),zas _, ?_⟩
 have hm:madeCells zv.cells (c*i.size)=((lrep z c).map (SC.re E)).toArray:=by rw [<-h9];exact made_eq h11
 simp only [Int.toNat_natCast,hm]at hr;simp only [execOp,hl,hc,Sem.run_bind,hr,Result.andThen_ok,Sem.run_pure,aal,SV.re,SC.re,Cp.re,aah]
theorem abw(b:Nat)(t:TypeId)(fz:Nat×Nat):∀(vs:List Value) (o:Nat) (cur:List Value) (w:World),w.heap[b]? =some (.cells cur.toArray t fz)->o+vs.length<=cur.length->
  (w.setCells b o vs).heap[b]? =some (.cells (cur.take o++vs++cur.drop (o+vs.length)).toArray t fz)/\(∀j,j≠b->(w.setCells b o vs).heap[j]? =w.heap[j]?)/\(w.setCells b o vs).heap.size=w.heap.size/\
   (w.setCells b o vs).os=w.os/\(w.setCells b o vs).tape=w.tape/\(w.setCells b o vs).output=w.output
 |[],o,cur,w,h,hl=>by
  refine⟨?_,fun _ _=>rfl,rfl,rfl,rfl,rfl⟩
  show w.heap[b]? =_;rw [h];simp
 |v::vs,o,cur,w,h,hl=>by
  simp only [List.length_cons]at hl;have h1:(w.setCell ⟨b,o,none⟩ v).heap[b]? =some (.cells (cur.set o v).toArray t fz):=by
   simp [World.setCell,Array.getElem?_modify,h]
  obtain⟨h2,h3,h4,h5,h6,h7⟩:=abw b t fz vs (o+1) (cur.set o v) (w.setCell ⟨b,o,none⟩ v) h1 (by simp;omega);refine⟨?_,fun j hj=> ?_, ?_,h5,h6,h7⟩
  ·show((w.setCell ⟨b,o,none⟩ v).setCells b (o+1) vs).heap[b]? =_
   rw [h2];congr 3
   have e1:(cur.set o v).take (o+1)=cur.take o++[v]:=by
    rw [List.set_eq_take_append_cons_drop,if_pos (by omega)];have hl:(cur.take o).length=o:=by simp;omega
    rw [List.take_append,hl,List.take_of_length_le (by rw [hl];omega),show o+1-o=1 by omega];simp
   have e2:(cur.set o v).drop (o+1+vs.length)=cur.drop (o+(vs.length+1)):=by
    rw [List.drop_set_of_lt (by omega)];congr 1;omega
   rw [e1,e2];simp
  ·show((w.setCell ⟨b,o,none⟩ v).setCells b (o+1) vs).heap[j]? =_
   rw [h3 j hj];exact RowKit.Below.heap_setCell w ⟨b,o,none⟩ v j hj
  ·show((w.setCell ⟨b,o,none⟩ v).setCells b (o+1) vs).heap.size=_
   rw [h4];simp [World.setCell]
theorem take_splice{α:Type}(cl vv:List α)(off xl:Nat)(h1:off+vv.length<=xl)(h2:xl<=cl.length):
  (cl.take off++vv++cl.drop (off+vv.length)).take xl=(cl.take xl).take off++vv++(cl.take xl).drop (off+vv.length):=by
 have e1:(cl.take xl).take off=cl.take off:=by rw [List.take_take,Nat.min_eq_left (by omega)]
 have e2:(cl.take xl).drop (off+vv.length)=(cl.drop (off+vv.length)).take (xl-(off+vv.length)):=by rw [List.drop_take]
 rw [e1,e2,List.take_append,List.take_of_length_le (l:=cl.take off++vv) (by simp;omega)];congr 2
 simp;omega
theorem inv_store(h:Inv w0 E H w){i t off:Nat}{md:Mo}{xs vs:List SC}(hb:H.t.get i=some (.cl t md xs))(hl:off+vs.length<=xs.length)(hv:∀x∈vs,x.ok H.nx):
  ∃w',(storeCells ⟨(E i).1,off,none⟩ (vs.map (SC.re E))).run C.P w=.ok () w'/\Inv w0 E (H.upd i (.cl t md (lput xs off vs))) w':=by
 obtain⟨cur,t',fz,h1,h2,h3,h4,h5⟩:=h.cells hb;have hcur:cur=cur.toList.toArray:=by simp
 rw [hcur]at h1;have hl2:off+(vs.map (SC.re E)).length<=cur.toList.length:=by simp;omega
 obtain⟨h6,h7,h8,h9,h10,h11⟩:=abw (E i).1 t' fz (vs.map (SC.re E)) off cur.toList w h1 hl2;have hst:=run_storeCells_cells (P:=C.P) (E i).1 off (vs.map (SC.re E)) 0 w (fun j hj=>by
   simp only [World.cell?,h1];simp at hj⊢
   omega) (fun j hj=>by
   simp only [World.frozen?,h1];rcases Mo.free h5 with rfl|hf
   ·simp
   ·have:¬fz.1<=off+j:=by simp at hj;omega
    simp [this]) (scs_one E vs)
 refine⟨_,hst, ?_⟩
 simp only [Nat.add_zero];have hi:=h.lt i _ hb;refine h.upd hi (show∀x∈lput xs off vs,x.ok H.nx from lput_mem xs off vs hl _ (h.ok i _ hb) hv) ?_;refine h.hp.change i _ _ (h.at hb) h9 h10 h11 (by rw [h8];exact zab _) (fun j _ hne=>h7 j (fun e=>hne (by rw [e];rfl))) ?_ (fun b hb'=> ?_)
 ·have e1:(lput xs off vs).map (SC.re E)=(xs.map (SC.re E)).take off++vs.map (SC.re E)++(xs.map (SC.re E)).drop (off+vs.length):=map_lput _ _ _ _ hl;have hll:(lput xs off vs).length=xs.length:=lput_len _ _ _ hl;have e2:(List.take off cur.toList++List.map (SC.re E) vs++List.drop (off+(List.map (SC.re E) vs).length) cur.toList).toArray.size=cur.size:=by simp;omega
  have q1:((lput xs off vs).map (SC.re E)).length<=(List.take off cur.toList++List.map (SC.re E) vs++List.drop (off+(List.map (SC.re E) vs).length) cur.toList).toArray.size:=by rw [e2,zaf,hll];exact h3
  have q2:(List.take off cur.toList++List.map (SC.re E) vs++List.drop (off+(List.map (SC.re E) vs).length) cur.toList).toArray.toList.take ((lput xs off vs).map (SC.re E)).length=(lput xs off vs).map (SC.re E):=by
   rw [e1,<-h4,List.length_append,List.length_append];have hx:xs.length<=cur.toList.length:=by simpa using h3
   have hn:(List.take off (List.take xs.length cur.toList)).length+(List.map (SC.re E) vs).length+(List.drop (off+vs.length) (List.take xs.length cur.toList)).length=xs.length:=by simp;omega
   rw [hn]
   have:=take_splice cur.toList (vs.map (SC.re E)) off xs.length (by simpa using hl) hx
   simpa using this
  have q3:md.ok (E i).2 ((lput xs off vs).map (SC.re E)).length (List.take off cur.toList++List.map (SC.re E) vs++List.drop (off+(List.map (SC.re E) vs).length) cur.toList).toArray.size fz:=by rw [e2,zaf,hll];exact h5
  exact⟨_,t',fz,h6,h2,q1,q2,q3⟩
 ·cases hb'
  have hlt:=(Array.getElem?_eq_some_iff.1 h1).1;exact⟨.inl rfl,by rw [h8];exact hlt⟩
theorem ef_store(h:Sd C m S n w0 E w){t:Nat}{x y:Operand}{r:Option SV×Hs}(hv:wStore C m S t x y=some r):Efx C S n w0 E w ⟨d,.store t x y,ty,pos,after,gd⟩ r:=by
 obtain⟨v,h1,hv⟩:=aaa hv;obtain⟨p,h2,hv⟩:=aaa hv;obtain⟨b,h3,hv⟩:=aaa hv;obtain⟨q,h4,hv⟩:=aaa hv;obtain⟨u,h5,hv⟩:=aaa hv;obtain⟨vs,h6,hv⟩:=aaa hv;obtain⟨z,h7,hv⟩:=aaa hv;obtain⟨h8,hv⟩:=aab hv;obtain⟨h9,hv⟩:=aab hv;cases hv
 rw [aad,aag]at h8;rw [aac,aag]at h9;have h9':p.2+z<=q.2.2.length:=h9;obtain⟨hx,_⟩:=aaj h h1;obtain⟨hy,hok⟩:=abh h h5;obtain rfl:=asP_ok h2;rw [hbC_ok h4]at h3;obtain⟨w',h10,h11⟩:=inv_store (C:=C) (vs:=vs) (off:=p.2) h.inv h3 (by omega) (SV.cells_ok h6 hok);have hx':evn n (rF E S.F) x=.pointer (some ⟨(E p.1).1,p.2,none⟩):=hx;have hc:=SV.cells_r (E:=E) h6;have hz:(sizeOf t).run C.P w=.ok vs.length w:=by rw [h8];exact aaq h7 w
 refine⟨E,w',Ag.refl _ _,zab _,h11,trivial, ?_⟩
 simp [execOp,hx',hy,Instr.storeAt,Instr.sureAddr,storeVar,hz,hc,h10,aal]
theorem byC_re:∀(l x:Nat) (E:En),(byC l x).map (SC.re E)=(dec l x).map bt
 |0,x,E=>rfl
 |l+1,x,E=>by
  have ih:=byC_re l (x/256) E
  show(SC.i .u8 (x%256)).re E::(byC l (x/256)).map (SC.re E)=_
  rw [ih];have hlt:x%256<256:=Nat.mod_lt _ (by decide);have e:(SC.i .u8 (x%256)).re E=bt (zan (x%256)):=by
   show Value.int .u8 (IntKind.u8.wrap ((x%256:Nat):Int))=Value.int .u8 ((zan (x%256)).toNat:Int);rw [bytes_lt _ hlt,wrap_small (show x%256<256 from hlt)]
  rw [e];rfl
theorem byC_len(l x:Nat):(byC l x).length=l:=by
 have:=congrArg List.length (byC_re l x (fun _=>(0,0)))
 simpa [aai] using this
theorem byC_ok:∀(l x k:Nat),∀y∈byC l x,y.ok k
 |0,x,k,y,hy=>by cases hy
 |l+1,x,k,y,hy=>by
  rcases List.mem_cons.1 (show y∈SC.i .u8 (x%256)::byC l (x/256)from hy)with rfl|hy
  ·trivial
  ·exact byC_ok l _ k y hy
theorem ef_bytes(h:Sd C m S n w0 E w){s t:Nat}{x:Operand}{r:Option SV×Hs}(hv:wBytes C m S s t x=some r):Efx C S n w0 E w ⟨d,.convert s t x,ty,pos,after,gd⟩ r:=by
 obtain⟨v,h1,hv⟩:=aaa hv;obtain⟨q,h2,hv⟩:=aaa hv;obtain⟨_,h3,hv⟩:=aaa hv;obtain⟨e,h4,hv⟩:=aaa hv;obtain⟨_,h5,hv⟩:=aaa hv;cases hv
 have hx:=(aaj h h1).1;obtain rfl:=asS_ok h2;have hs:=abu h3;have ht:=aak h4;have he:=isU8_ok h5
 let l:=dec q.1 q.2
 let cap:=Question.cut (.appendCap l.length 0 e) (w.tape w.drawn (.appendCap l.length 0 e))
 have hcap:l.length<=cap:=by show _<=_+_;omega
 have hll:l.length=q.1:=aai q.1 q.2
 let cells:Array Value:=(l.toArray.map fun b=>.int .u8 b.toNat)++Array.replicate (cap-l.length) (.int .u8 0)
 have hcs:cells.size=cap:=by simp [cells];omega
 let w1:World:={w with drawn:=w.drawn+1,heap:=w.heap.push (.cells cells e (cap,cap+1))}
 have hrun:(execOp (evn n (rF E S.F)) (⟨d,.convert s t x,ty,pos,after,gd⟩:Oper)).run C.P w=.ok (.value (.slice (some ⟨w.heap.size,0,none⟩) l.length cap)) w1:=by
  have e1:(convert s t (str l)).run C.P w=(Conv.stringToBytes e ⟨l.toArray⟩).run C.P w:=by
   simp [convert,str,run_underlying hs,run_underlying ht,run_underlying he]
  have e2:(Conv.stringToBytes e ⟨l.toArray⟩).run C.P w=.ok (.slice (some ⟨w.heap.size,0,none⟩) l.length cap) w1:=by
   have hsz:(⟨l.toArray⟩:ByteArray).size=l.length:=rfl;unfold Conv.stringToBytes markStringish;simp only [Sem.run_bind,hsz];show Result.andThen (Result.ok cap {w with drawn:=w.drawn+1}) _=_;simp only [Result.andThen_ok,newRow,Sem.run_bind,run_newObj,Sem.run_pure];show Result.andThen (Result.andThen (Result.ok (World.shape? {w with drawn:=w.drawn+1,heap:=w.heap.push (.cells cells e (0,0))} w.heap.size) _) _) _=_;have hsh:World.shape? {w with drawn:=w.drawn+1,heap:=w.heap.push (.cells cells e (0,0))} w.heap.size=some (e,cap):=by
    simp [World.shape?,hcs]
   rw [hsh];simp only [Result.andThen_ok];show Result.andThen (Result.ok () (World.freeze {w with drawn:=w.drawn+1,heap:=w.heap.push (.cells cells e (0,0))} ⟨w.heap.size,cap,none⟩ 1)) _=_;simp only [Result.andThen_ok,Sem.run_pure,World.freeze];congr 1
   simp only [Nat.one_ne_zero,if_false];refine congrArg (fun h=>({w with drawn:=w.drawn+1,heap:=h}:World)) ?_;apply Array.ext
   ·simp
   ·intro i h1 h2;have hlt:i<w.heap.size+1:=by simpa using h2
    rw [Array.getElem_modify];by_cases hi:w.heap.size=i
    ·subst hi;simp
    ·have hl2:i<w.heap.size:=by omega
     simp [hi,Array.getElem_push,hl2]
  have hx':evn n (rF E S.F) x=str l:=hx;simp [execOp,hx',e1,e2]
 refine⟨_,w1,aav E _ (w.heap.size,cap),Nat.le_succ _, ?_,zas _, ?_⟩
 ·refine inv_new (o:=.cells cells e (cap,cap+1)) h.inv rfl (byC_ok _ _ _) ?_ ?_ rfl
  ·simp only [resOf,cres,aah]
  ·simp only [resOf,cres,aah];rw [byC_re];have hlm:((dec q.1 q.2).map bt).length=l.length:=by simp [l]
   refine⟨cells,e,(cap,cap+1),rfl,.inl trivial,by rw [hlm,hcs];exact hcap, ?_, ?_⟩
   ·simp [cells,bt,l]
   ·rw [hlm,hcs];exact⟨hcap,zab _,zab _⟩
 ·rw [hrun];simp only [aal,SV.re,SC.re,Cp.re,aah,hll,Nat.sub_zero]
theorem srcC_ok(h:Sd C m S n w0 E w){sz k:Nat}{vs:List SC}{x:Operand}(hv:srcC m S sz x=some (k,vs))(hsz:∀l y,evC m S x=some (.s l y)->sz=1):
  vs.length=k*sz/\(∀y∈vs,y.ok S.H.nx)/\(∀w':World,(Builtin.lenOf (evn n (rF E S.F) x)).run C.P w'=.ok k w')/\
   ∀(w':World) (k':Nat),(∀a,w'.cell? a=w.cell? a)->k'<=k->(Builtin.firstCells sz k' (evn n (rF E S.F) x)).run C.P w'=.ok ((vs.take (k'*sz)).map (SC.re E)).toArray w':=by
 obtain⟨v,h1,hv⟩:=aaa hv;obtain⟨hx,hok⟩:=aaj h h1;rw [hx];cases v with
 |ns=>
  have e:(0,([]:List SC))=(k,vs):=Option.some.inj hv;cases e
  refine⟨by simp,by simp,fun w'=>rfl,fun w' k' _ hk=> ?_⟩
  simp [SC.re,Builtin.firstCells]
 |z i base dd off=>
  have e:(0,([]:List SC))=(k,vs):=Option.some.inj hv;cases e
  refine⟨by simp,by simp,fun w'=>rfl,fun w' k' _ hk=> ?_⟩
  obtain rfl:k'=0:=by omega
  have:=run_loadCells_list (P:=C.P) w' ⟨(E i).1,if(E i).2-off=0 then base else base+dd,none⟩ [] (fun j u hj=>by cases hj)
  simpa [SC.re,Builtin.firstCells] using this
 |s l y=>
  have e:(l,byC l y)=(k,vs):=Option.some.inj hv;cases e
  have h1':=hsz k y h1;subst h1';refine⟨by rw [byC_len];omega,byC_ok k y _,fun w'=> ?_,fun w' k' _ hk=> ?_⟩
  ·show Sem.run C.P (pure (⟨(dec k y).toArray⟩:ByteArray).size) w'=_
   have:(⟨(dec k y).toArray⟩:ByteArray).size=k:=aai k y
   rw [this];rfl
  ·show Sem.run C.P (pure (((⟨(dec k y).toArray⟩:ByteArray).extract 0 k').data.map fun b=>Value.int .u8 b.toNat)) w'=_;have e2:((⟨(dec k y).toArray⟩:ByteArray).extract 0 k').data=((dec k y).take k').toArray:=by
    rw [ByteArray.data_extract];simp [List.extract_eq_take_drop]
   rw [e2,Nat.mul_one,List.map_take,byC_re];simp only [Sem.run_pure];congr 1
   simp [bt,List.map_take]
   rfl
 |sl i base nn c=>
  obtain⟨xs,h2,hv⟩:=aaa (show(ob (cellsOf S i) fun xs=>bi (zad (base+nn*sz) (abd xs)) (some (nn,ltake (ldrop xs base) (nn*sz))) none)=some (k,vs)from hv);obtain⟨h3,hv⟩:=aab hv;cases hv
  rw [aac,aag]at h3;rw [abc,ldrop_eq];obtain⟨h4,h5⟩:=cellsOf_okk h h2;refine⟨by simp;omega,fun y hy=>h5 y (List.mem_of_mem_drop (List.mem_of_mem_take hy)),fun w'=>rfl,fun w' k' hw' hk=> ?_⟩
  have hkk:k'*sz<=k*sz:=Nat.mul_le_mul_right _ hk;have hlen:((((xs.drop base).take (k*sz)).take (k'*sz)).map (SC.re E)).length=k'*sz:=by simp;omega
  have:=run_loadCells_list (P:=C.P) w' ⟨(E i).1,base,none⟩ ((((xs.drop base).take (k*sz)).take (k'*sz)).map (SC.re E)) fun j u hj=>by
   rw [aan,hw'];rw [List.getElem?_map]at hj;obtain⟨y,hy,rfl⟩:=Option.map_eq_some_iff.1 hj;rw [List.getElem?_take]at hy;split at hy
   ·rw [List.getElem?_take]at hy;split at hy
    ·rw [List.getElem?_drop]at hy;exact h4 _ y hy
    ·cases hy
   ·cases hy
  rw [hlen]at this;exact this
 |_=>cases hv
theorem isSS_ok{du:TypeDesc}(h:isSS du=true):(∃e,du=.slice e)\/du=.string:=by
 cases du<;>first|exact .inl ⟨_,rfl⟩|exact .inr rfl|cases h
section
variable {t u e k cap : Nat} {inf : TypeInfo} {a : Option Addr} {x : Value} {news : List Value}
theorem app_fits(ht:C.P.underlying t=some (.slice e))(hu:(∃e',C.P.underlying u=some (.slice e'))\/C.P.underlying u=some .string)(hi:C.P.info? e=some inf){A:Addr}{nn:Nat}(hlen:(Builtin.lenOf x).run C.P w=.ok k w)(hf:(Builtin.firstCells inf.size k x).run C.P w=.ok news.toArray w)(hroom:nn+k<=cap){w':World}
  (hst:(storeCells (A.add (nn*inf.size)) news).run C.P w=.ok () w'):
  (Builtin.append_ #[t,u] ty #[.slice (some A) nn cap,x]).run C.P w=.ok (.slice (some A) (nn+k) cap) w':=by
 rcases hu with⟨e',hu⟩|hu<;>simp [Builtin.append_,run_underlying ht,run_underlying hu,sizeOf,typeInfo,hi,hlen,hroom,hf,hst]
theorem wrapN{k:Nat}(h:k<=1000000000):IntKind.i64.wrap (k:Int)=(k:Int):=wrap64_id (by omega) (by omega)
theorem app_fitsZ{q:IntKind}{z:Value}(ht:C.P.underlying t=some (.slice e))(hu:C.P.underlying u=some (.int q))(hi:C.P.info? e=some inf)(hz:inf.zero=some z){A:Addr}{nn:Nat}(hb0:inf.bytes≠0)(hb:k*inf.bytes<=1000000000)(hk0:k*inf.size≠0)(hn:news.toArray=Builtin.zeroCells z.cells k)(hroom:nn+k<=cap){w':World}
  (hst:(storeCells (A.add (nn*inf.size)) news).run C.P w=.ok () w'):
  (Builtin.append_ #[t,u] ty #[.slice (some A) nn cap,.int .i64 (k:Int)]).run C.P w=.ok (.slice (some A) (nn+k) cap) w':=by
 have hle:k<=k*inf.bytes:=Nat.le_mul_of_pos_right _ (by omega);have h1:=wrapN (k:=k) (by omega);have h2:¬((k:Int)<0):=by omega
 have h3:¬(281474976710656<(k:Int)*(inf.bytes:Int)):=by
  have:(k:Int)*(inf.bytes:Int)=((k*inf.bytes:Nat):Int):=by simp
  rw [this];omega
 have h5:(Builtin.zeroCells z.cells k).toList=news:=by rw [<-hn]
 have hk1:¬(k=0\/inf.size=0):=by
  intro h;apply hk0
  rcases h with h|h<;>simp [h]
 simp [Builtin.append_,run_underlying ht,run_underlying hu,sizeOf,typeInfo,zeroValue,hi,hz,asInt,asIntOf,h1,h2,h3,hk0,hroom,h5,hst]
theorem app_nil0(ht:C.P.underlying t=some (.slice e))(hu:(∃e',C.P.underlying u=some (.slice e'))\/C.P.underlying u=some .string)(hi:C.P.info? e=some inf)(hlen:(Builtin.lenOf x).run C.P w=.ok 0 w)(hf:(Builtin.firstCells inf.size 0 x).run C.P w=.ok #[] w):
  (Builtin.append_ #[t,u] ty #[.slice none 0 0,x]).run C.P w=.ok (.slice none 0 0) w:=by
 rcases hu with⟨e',hu⟩|hu<;>simp [Builtin.append_,run_underlying ht,run_underlying hu,sizeOf,typeInfo,hi,hlen,hf]
theorem app_grows{z:Value}{olds:List Value}{nn:Nat}(ht:C.P.underlying t=some (.slice e))(hu:(∃e',C.P.underlying u=some (.slice e'))\/C.P.underlying u=some .string)(hi:C.P.info? e=some inf)(hz:inf.zero=some z)(hlen:(Builtin.lenOf x).run C.P w=.ok k w)(hf:(Builtin.firstCells inf.size k x).run C.P w.drew=.ok news.toArray w.drew)
  (hfo:(Builtin.firstCells inf.size nn (.slice a nn cap)).run C.P w.drew=.ok olds.toArray w.drew) (hg:cap<nn+k) (hb:(nn+k)*inf.bytes<=1000000000) (hb0:inf.bytes≠0):
  (Builtin.append_ #[t,u] ty #[.slice a nn cap,x]).run C.P w=
   .ok (.slice (some ⟨w.heap.size,0,none⟩) (nn+k) (grownCap w (nn+k) cap e)) (w.drew.alloc (.cells (olds.toArray++news.toArray++Builtin.zeroCells z.cells (grownCap w (nn+k) cap e-(nn+k))) e)):=by
 have hle:nn+k<=(nn+k)*inf.bytes:=Nat.le_mul_of_pos_right _ (by omega);have hn:¬(nn+k<=cap):=by omega
 have h63':¬(9223372036854775807<((nn:Int)+(k:Int))):=by omega
 have h48':¬(281474976710656<Builtin.nextslicecap (nn+k) cap*inf.bytes):=by have:=growslice_fits (bytes:=inf.bytes) hg (by omega);omega
 rcases hu with⟨e',hu⟩|hu
 ·simp [Builtin.append_,run_underlying ht,run_underlying hu,sizeOf,typeInfo,zeroValue,hi,hz,hlen,hn,h63',h48',Question.forced,hf,hfo,newRow,grownCap]
  congr 2
  apply Array.ext'
  simp [List.append_assoc]
 ·simp [Builtin.append_,run_underlying ht,run_underlying hu,sizeOf,typeInfo,zeroValue,hi,hz,hlen,hn,h63',h48',Question.forced,hf,hfo,newRow,grownCap]
  congr 2
  apply Array.ext'
  simp [List.append_assoc]
theorem app_growsZ{q:IntKind}{z:Value}{olds:List Value}{nn:Nat}(ht:C.P.underlying t=some (.slice e))(hu:C.P.underlying u=some (.int q))(hi:C.P.info? e=some inf)(hz:inf.zero=some z)(hk0:k*inf.size≠0)(hn:news.toArray=Builtin.zeroCells z.cells k)
  (hfo:(Builtin.firstCells inf.size nn (.slice a nn cap)).run C.P w.drew=.ok olds.toArray w.drew) (hg:cap<nn+k) (hb:(nn+k)*inf.bytes<=1000000000) (hb0:inf.bytes≠0):
  (Builtin.append_ #[t,u] ty #[.slice a nn cap,.int .i64 (k:Int)]).run C.P w=
   .ok (.slice (some ⟨w.heap.size,0,none⟩) (nn+k) (grownCap w (nn+k) cap e)) (w.drew.alloc (.cells (olds.toArray++news.toArray++Builtin.zeroCells z.cells (grownCap w (nn+k) cap e-(nn+k))) e)):=by
 have hle:nn+k<=(nn+k)*inf.bytes:=Nat.le_mul_of_pos_right _ (by omega);have hle2:k*inf.bytes<=(nn+k)*inf.bytes:=Nat.mul_le_mul_right _ (by omega);have hnn:¬(nn+k<=cap):=by omega
 have h63':¬(9223372036854775807<((nn:Int)+(k:Int))):=by omega
 have h48':¬(281474976710656<Builtin.nextslicecap (nn+k) cap*inf.bytes):=by have:=growslice_fits (bytes:=inf.bytes) hg (by omega);omega
 have h1:=wrapN (k:=k) (by omega);have h2:¬((k:Int)<0):=by omega
 have h3:¬(281474976710656<(k:Int)*(inf.bytes:Int)):=by
  have:(k:Int)*(inf.bytes:Int)=((k*inf.bytes:Nat):Int):=by simp
  rw [this];omega
 have hk1:¬(k=0\/inf.size=0):=by
  intro h;apply hk0
  rcases h with h|h<;>simp [h]
 rw [hn];simp [Builtin.append_,run_underlying ht,run_underlying hu,sizeOf,typeInfo,zeroValue,hi,hz,asInt,asIntOf,h1,h2,h3,hk0,hnn,h63',h48',Question.forced,hfo,newRow,grownCap]
end
theorem hp_gn{L:List Res}(h:Hp w0 [] L w):Hp w0 [] (⟨none,fun _=>True⟩::L) w:=by
 refine⟨h.os,h.tape,h.output,h.size,h.below,fun r hr=> ?_, ?_⟩
 ·rcases List.mem_cons.1 hr with rfl|hr
  ·exact⟨trivial,fun b hb=>by cases hb⟩
  ·exact h.res r hr
 ·exact List.Pairwise.cons (fun r _ b hb=>by cases hb) h.sep
theorem set_perm{α:Type}(x:α):∀(L:List α) (i:Nat),i<L.length->(L.set i x).Perm (x::L.eraseIdx i)
 |[],i,h=>by simp at h
 |y::L,0,h=>by simp
 |y::L,i+1,h=>by
  simp only [List.set_cons_succ,List.eraseIdx_cons_succ];exact(List.Perm.cons y (set_perm x L i (by simpa using h))).trans (List.Perm.swap x y _)
theorem aat(E:En)(H:Hs):(aam E H).length=H.nx:=by simp [aam]
theorem inv_gone(h:Inv w0 E H w){i:Nat}(hi:i<H.nx):Inv w0 E (H.upd i .gn) w:=by
 refine h.upd hi trivial ?_;refine Hp.perm (hp_gn (h.hp.sub (List.eraseIdx_sublist _ i))) ?_;exact(set_perm _ _ i (by rw [aat];exact hi)).symm
theorem row_ok{E:En}{b cap e sz mm:Nat}{xs:List SC}{zs:Array Value}(hl:xs.length=mm*sz)(hm:mm<=cap)(hc:cap<=maxLen)(hz:zs.size=(cap-mm)*sz):
  (cres b cap e (.rw sz mm) (xs.map (SC.re E))).ok (some (.cells ((xs.map (SC.re E)).toArray++zs) e)):=by
 have hs:((xs.map (SC.re E)).toArray++zs).size=cap*sz:=by
  simp only [Array.size_append,List.size_toArray,zaf,hl,hz];rw [<-Nat.add_mul];congr 1;omega
 refine⟨_,e,(0,0),rfl,.inr rfl, ?_, ?_, ?_⟩
 ·rw [hs,zaf,hl];exact Nat.mul_le_mul_right _ hm
 ·simp
 ·exact⟨by rw [zaf,hl],hm,hc,hs,rfl⟩
theorem inv_row(h:Inv w0 E H w){cap e sz mm:Nat}{xs:List SC}{zs:Array Value}(hx:∀x∈xs,x.ok H.nx)(hl:xs.length=mm*sz)(hm:mm<=cap)(hc:cap<=maxLen)(hz:zs.size=(cap-mm)*sz):
  Inv w0 (eat E H.nx (w.heap.size,cap)) (H.add (.cl e (.rw sz mm) xs)) (w.drew.alloc (.cells ((xs.map (SC.re E)).toArray++zs) e)):=by
 refine inv_new (o:=.cells ((xs.map (SC.re E)).toArray++zs) e) h rfl (okUp hx) ?_ ?_ rfl
 ·simp only [resOf,cres,aah]
 ·simp only [resOf,aah];rw [scs_ext (aav E H.nx _) hx];exact row_ok hl hm hc hz
def AppOk(C:Cx)(H:Hs)(w0:World)(E:En)(w:World)(s:Sem Value)(r:Option SV×Hs):Prop:=
 ∃v E' w',r.1=some v/\Ag H.nx E E'/\H.nx<=r.2.nx/\Inv w0 E' r.2 w'/\v.ok r.2.nx/\s.run C.P w=.ok (v.re E') w'
section
variable {t u e k : Nat} {inf : TypeInfo} {x : Value} {vs : List SC} {z : Value} {r : Option SV × Hs}
structure AppF (C:Cx) (w:World) (E:En) (H:Hs) (t u e k:Nat) (inf:TypeInfo) (x:Value) (vs:List SC) (z:Value):Prop where
 hz:inf.zero=some z
 hzs:z.cells.size=inf.size
 hb0:inf.bytes≠0
 hl:vs.length=k*inf.size
 hok:∀y∈vs,y.ok H.nx
 fits:∀{ty:TypeId} {A:Addr} {nn cap:Nat} {w':World},nn+k<=cap->(nn+k)*inf.bytes<=1000000000->(storeCells (A.add (nn*inf.size)) (vs.map (SC.re E))).run C.P w=.ok () w'->(Builtin.append_ #[t,u] ty #[.slice (some A) nn cap,x]).run C.P w=.ok (.slice (some A) (nn+k) cap) w'
 grows:∀{ty:TypeId} {a:Option Addr} {nn cap:Nat} {olds:List Value},(Builtin.firstCells inf.size nn (.slice a nn cap)).run C.P w.drew=.ok olds.toArray w.drew->cap<nn+k->(nn+k)*inf.bytes<=1000000000->(Builtin.append_ #[t,u] ty #[.slice a nn cap,x]).run C.P w=
   .ok (.slice (some ⟨w.heap.size,0,none⟩) (nn+k) (grownCap w (nn+k) cap e)) (w.drew.alloc (.cells (olds.toArray++(vs.map (SC.re E)).toArray++Builtin.zeroCells z.cells (grownCap w (nn+k) cap e-(nn+k))) e))
 nil0:∀{ty:TypeId},k=0->(Builtin.append_ #[t,u] ty #[.slice none 0 0,x]).run C.P w=.ok (.slice none 0 0) w
theorem zc_size(A:AppF C w E H t u e k inf x vs z)(j:Nat):(Builtin.zeroCells z.cells j).size=j*inf.size:=by rw [size_zeroCells,A.hzs]
theorem app_new(h:Inv w0 E H w)(A:AppF C w E H t u e k inf x vs z){a:Option Addr}{nn cap:Nat}{olds:List SC}(hfo:(Builtin.firstCells inf.size nn (.slice a nn cap)).run C.P w.drew=.ok (olds.map (SC.re E)).toArray w.drew)(hol:olds.length=nn*inf.size)
  (hoo:∀y∈olds,y.ok H.nx) (hg:cap<nn+k) (hb:(nn+k)*inf.bytes<=1000000000) {H':Hs} (hn:H'.nx=H.nx) (h':Inv w0 E H' w) (hr:appNew H' e inf.size (nn+k) (olds++vs)=some r):
  AppOk C H w0 E w (Builtin.append_ #[t,u] ty #[.slice a nn cap,x]) r:=by
 have er:(some (SV.c (.sl H'.nx 0 (nn+k) (.r 0))),H'.add (.cl e (.rw inf.size (nn+k)) (olds++vs)))=r:=Option.some.inj hr;subst er;have hle:nn+k<=(nn+k)*inf.bytes:=Nat.le_mul_of_pos_right _ (Nat.pos_of_ne_zero A.hb0);have hrun:=A.grows (ty:=ty) hfo hg hb;have hge:=grownCap_ge w (nn+k) cap e;have hcm:=grownCap_le_maxLen w (nn+k) cap e (by unfold maxLen;omega);have hxs:∀y∈olds++vs,y.ok H'.nx:=by
  rw [hn];intro y hy;rcases List.mem_append.1 hy with hy|hy
  ·exact hoo y hy
  ·exact A.hok y hy
 have hinv:=inv_row (e:=e) (sz:=inf.size) (mm:=nn+k) (cap:=grownCap w (nn+k) cap e) (zs:=Builtin.zeroCells z.cells (grownCap w (nn+k) cap e-(nn+k))) h' hxs (by rw [List.length_append,hol,A.hl,Nat.add_mul]) hge hcm (zc_size A _);refine⟨_,_,_,rfl, ?_, ?_,hinv, ?_, ?_⟩
 ·rw [<-hn];exact aav E _ _
 ·show H.nx<=H'.nx+1;omega
 ·show H'.nx<H'.nx+1;omega
 ·rw [hrun];simp only [SV.re,SC.re,Cp.re,aah,Nat.sub_zero,zav];congr 4
  simp
theorem app_nil(h:Inv w0 E H w)(A:AppF C w E H t u e k inf x vs z)(hr:appNil H e inf.size inf.bytes k vs=some r):AppOk C H w0 E w (Builtin.append_ #[t,u] ty #[.slice none 0 0,x]) r:=by
 unfold appNil at hr;rw [aaf]at hr;split at hr
 ·rename_i h0;rw [aad]at h0;subst h0;cases hr
  exact⟨_,E,w,rfl,Ag.refl _ _,zab _,h,trivial,A.nil0 rfl⟩
 ·rename_i h0;rw [aad]at h0;obtain⟨h1,hr⟩:=aab hr;rw [aac]at h1;have hk:0<k:=Nat.pos_of_ne_zero h0
  have:=app_new (ty:=ty) (nn:=0) (cap:=0) (a:=none) (olds:=[]) h A (by simp [Builtin.firstCells]) (by simp) (by simp) (by omega) (by simpa using h1) rfl h (by simpa using hr)
  exact this
end
end
end Go.Ce
set_option linter.constructorNameAsVariable false
namespace Go.Ce
open Go.Wk
open Bool renaming eq_iff_iff -> zau
open List renaming length_map -> zaf, map_append -> zav, map_cons -> zal
open Nat renaming beq -> zac, ble -> zad, le_refl -> zab, le_trans -> zap, lt_succ_self -> zas, succ -> zam
open Option renaming rec -> zaa
section
variable {C : Cx} {m : M} {S : T} {n : Md} {w0 w : World} {E : En} {H : Hs}
variable {d : Option Nat} {ty : TypeId} {pos : String} {after : Array Edge} {gd : Option (Nat × Bool)}
section
variable {t u e k : Nat} {inf : TypeInfo} {x : Value} {vs : List SC} {z : Value} {r : Option SV × Hs}
theorem first_cells(h:Inv w0 E H w){i t' nn cap sz:Nat}{md:Mo}{xs:List SC}(hb:H.t.get i=some (.cl t' md xs))(hl:nn*sz<=xs.length)(w':World)(hw:∀a,w'.cell? a=w.cell? a):
  (Builtin.firstCells sz nn (.slice (some ⟨(E i).1,0,none⟩) nn cap)).run C.P w'=.ok ((xs.take (nn*sz)).map (SC.re E)).toArray w':=by
 refine run_firstCells_some (P:=C.P) w' sz nn ⟨(E i).1,0,none⟩ nn cap _ (by simp;omega) fun j v hj=> ?_
 rw [hw,aan,Nat.zero_add];rw [List.getElem?_map]at hj;obtain⟨y,hy,rfl⟩:=Option.map_eq_some_iff.1 hj;rw [List.getElem?_take]at hy;split at hy
 ·exact h.cell hb hy
 ·cases hy
theorem app_ex(h:Inv w0 E H w)(A:AppF C w E H t u e k inf x vs z){i nn cc:Nat}{xs:List SC}(hb:H.t.get i=some (.cl e .ex xs))(hl:nn*inf.size<=xs.length)(hby:(nn+k)*inf.bytes<=1000000000)
  (hr:appEx H e inf.size i nn cc k xs vs=some r):AppOk C H w0 E w (Builtin.append_ #[t,u] ty #[.slice (some ⟨(E i).1,0,none⟩) nn cc,x]) r:=by
 unfold appEx at hr;rw [aaf]at hr;split at hr
 ·rename_i h0;rw [aac]at h0;obtain⟨h1,hr⟩:=aab hr;cases hr
  rw [aac,aag]at h1;have h1':(nn+k)*inf.size<=xs.length:=h1;obtain⟨w',h2,h3⟩:=inv_store (C:=C) (off:=nn*inf.size) (vs:=vs) h hb (by rw [A.hl,<-Nat.add_mul];exact h1') A.hok;have h4:=A.fits (ty:=ty) (A:=⟨(E i).1,0,none⟩) (nn:=nn) h0 hby (w':=w') (by rw [aan,Nat.zero_add];exact h2);exact⟨_,E,w',rfl,Ag.refl _ _,zab _,h3,h.lt i _ hb,h4⟩
 ·rename_i h0;rw [aac]at h0;have h0':¬nn+k<=cc:=h0;have hx:=h.ok i _ hb;refine app_new h A (olds:=xs.take (nn*inf.size)) (first_cells h hb hl w.drew fun _=>rfl) (by simp;omega) (fun y hy=>hx y (List.mem_of_mem_take hy)) (by omega) hby rfl h ?_;rw [abf,abc]at hr;exact hr
theorem app_fb(h:Inv w0 E H w)(A:AppF C w E H t u e k inf x vs z){i nn cc:Nat}{xs:List SC}(hb:H.t.get i=some (.cl e .fb xs))(hl:nn*inf.size<=xs.length)(hby:(nn+k)*inf.bytes<=1000000000)
  (hr:appFb H e inf.size nn cc k xs vs=some r):AppOk C H w0 E w (Builtin.append_ #[t,u] ty #[.slice (some ⟨(E i).1,0,none⟩) nn cc,x]) r:=by
 unfold appFb at hr;rw [aaf]at hr;split at hr
 ·cases hr
 ·rename_i h0;rw [aac]at h0;have h0':¬nn+k<=cc:=h0;have hx:=h.ok i _ hb;refine app_new h A (olds:=xs.take (nn*inf.size)) (first_cells h hb hl w.drew fun _=>rfl) (by simp;omega) (fun y hy=>hx y (List.mem_of_mem_take hy)) (by omega) hby rfl h ?_;rw [abf,abc]at hr;exact hr
theorem app_rw(h:Inv w0 E H w)(A:AppF C w E H t u e k inf x vs z){i nn sz' mm:Nat}{xs:List SC}(hb:H.t.get i=some (.cl e (.rw sz' mm) xs))(hl:nn*inf.size<=xs.length)(hby:(nn+k)*inf.bytes<=1000000000)
  (hr:appRw H e inf.size i nn k sz' mm xs vs=some r):AppOk C H w0 E w (Builtin.append_ #[t,u] ty #[.slice (some ⟨(E i).1,0,none⟩) nn (E i).2,x]) r:=by
 obtain⟨h0,hr⟩:=aab (show bi (zac sz' inf.size) (bi (zad nn mm) (appNew (H.upd i .gn) e inf.size (nn+k) (lapp (ltake xs (nn*inf.size)) vs)) none) none=some r from hr);obtain⟨h1,hr9⟩:=aab hr;rw [aad]at h0;rw [aac]at h1;rw [abf,abc]at hr9;subst h0;have hi:=h.lt i _ hb;have hx:=h.ok i _ hb;have hol:(xs.take (nn*inf.size)).length=nn*inf.size:=by simp;omega
 have hoo:∀y∈xs.take (nn*inf.size),y.ok H.nx:=fun y hy=>hx y (List.mem_of_mem_take hy)
 have hgn:=inv_gone h hi;by_cases hcap:nn+k<=(E i).2
 ·obtain⟨cur,t',fz,h2,h3,h4,h5,h6,h7,h8,h9,h10⟩:=h.cells hb;obtain rfl:t'=e:=by rcases h3 with h3|h3;cases h3;exact h3
  subst h10;have hcur:cur=cur.toList.toArray:=by simp
  rw [hcur]at h2;have hkz:nn*inf.size+vs.length=(nn+k)*inf.size:=by rw [A.hl,<-Nat.add_mul]
  have hcz:(nn+k)*inf.size<=cur.toList.length:=by rw [Array.length_toList,h9];exact Nat.mul_le_mul_right _ hcap
  obtain⟨g1,g2,g3,g4,g5,g6⟩:=abw (E i).1 t' (0,0) (vs.map (SC.re E)) (nn*inf.size) cur.toList w h2 (by rw [zaf,hkz];exact hcz);have hst:=run_storeCells_cells (P:=C.P) (E i).1 (nn*inf.size) (vs.map (SC.re E)) 0 w (fun j hj=>by
    simp only [World.cell?,h2]
    have:nn*inf.size+0+j<cur.toList.length:=by rw [zaf]at hj;omega
    simp at this⊢
    omega) (fun j hj=>by simp [World.frozen?,h2]) (scs_one E vs)
  have h11:=A.fits (ty:=ty) (A:=⟨(E i).1,0,none⟩) (nn:=nn) hcap hby (by rw [aan,Nat.zero_add];exact hst);have er:(some (SV.c (.sl H.nx 0 (nn+k) (.r 0))),(H.upd i .gn).add (.cl t' (.rw inf.size (nn+k)) (xs.take (nn*inf.size)++vs)))=r:=Option.some.inj hr9;subst er;have hyy:∀y∈xs.take (nn*inf.size)++vs,y.ok H.nx:=fun y hy=>by
   rcases List.mem_append.1 hy with hy|hy
   ·exact hoo y hy
   ·exact A.hok y hy
  refine⟨_,eat E H.nx (E i),w.setCells (E i).1 (nn*inf.size+0) (vs.map (SC.re E)),rfl,aav E _ _,Nat.le_succ _, ?_,zas _, ?_⟩
  ·refine Inv.add hgn (aav E _ _) (okUp hyy) ?_;have hfr:=h.hp.front i _ (h.at hb);have hbl:=(h.blt hb (k:=(E i).1) rfl)
   have hnew:Hp w [(E i).1] [resOf (eat E H.nx (E i)) H.nx (.cl t' (.rw inf.size (nn+k)) (xs.take (nn*inf.size)++vs))] (w.setCells (E i).1 (nn*inf.size+0) (vs.map (SC.re E))):=by
    simp only [Nat.add_zero];refine⟨g4,g5,g6,by rw [g3];exact zab _,fun j _ hj=>g2 j (by simpa using hj),fun q hq=> ?_,by simp⟩
    simp at hq
    subst hq;refine⟨?_,fun b hb'=> ?_⟩
    ·have hzz:(cur.toList.drop (nn*inf.size+vs.length)).length=((E i).2-(nn+k))*inf.size:=by
      rw [List.length_drop,hkz,Array.length_toList,h9,<-Nat.sub_mul]
     have hro:=row_ok (E:=E) (b:=(E i).1) (e:=t') (zs:=(cur.toList.drop (nn*inf.size+vs.length)).toArray) (xs:=xs.take (nn*inf.size)++vs) (mm:=nn+k) (cap:=(E i).2) (sz:=inf.size)
      (by rw [List.length_append,hol,hkz]) hcap h8 (by simpa using hzz)
     show(resOf (eat E H.nx (E i)) H.nx _).ok _
     simp only [resOf,aah];rw [scs_ext (aav E H.nx _) hyy];have e1:(cur.toList.take (nn*inf.size))=(xs.take (nn*inf.size)).map (SC.re E):=by
      rw [List.map_take,<-h5,List.take_take,Nat.min_eq_left hl]
     have hg:(w.setCells (E i).1 (nn*inf.size) (vs.map (SC.re E))).heap[(E i).1]? =some (.cells (((xs.take (nn*inf.size)++vs).map (SC.re E)).toArray++(cur.toList.drop (nn*inf.size+vs.length)).toArray) t'):=by
      rw [g1,e1];simp
     show(cres (E i).1 (E i).2 t' (.rw inf.size (nn+k)) _).ok ((w.setCells (E i).1 (nn*inf.size) (vs.map (SC.re E))).heap[(E i).1]?)
     rw [hg];exact hro
    ·have hbb:b=(E i).1:=by
      simp only [resOf,cres,aah,Option.some.injEq]at hb';exact hb'.symm
     subst hbb;exact⟨by rw [g3];exact hbl.1,.inr (by simp)⟩
   have hck:=Hp.callK (L1:=[resOf E i (.cl t' (.rw inf.size mm) xs)]) (L2:=(aam E H).eraseIdx i) hfr hnew;have e2:aam E (H.upd i .gn)=(aam E H).set i ⟨none,fun _=>True⟩:=by
    apply List.ext_getElem?
    intro j;rw [List.getElem?_set]
    show((List.range H.nx).map _)[j]? =_
    by_cases hj:j<H.nx
    ·simp only [List.getElem?_map,List.getElem?_range hj,Option.map_some,hat_upd];by_cases hij:i=j
     ·subst hij;simp [aam,hj,resOf]
     ·rw [if_neg (fun e=>hij e.symm),if_neg hij,resLs_at hj]
    ·simp [aam,hj]
     intro e1;omega
   rw [e2];have hck2:=hp_gn (show Hp w0 [] (resOf (eat E H.nx (E i)) H.nx (.cl t' (.rw inf.size (nn+k)) (xs.take (nn*inf.size)++vs))::(aam E H).eraseIdx i) _ from hck);refine hck2.perm ?_;refine(List.Perm.swap _ _ _).trans (List.Perm.cons _ ?_)
   exact(set_perm _ _ i (by rw [aat];exact hi)).symm
  ·rw [h11];simp only [SV.re,SC.re,Cp.re,aah,Nat.sub_zero]
 ·exact app_new (H':=H.upd i .gn) h A (first_cells h hb hl w.drew fun _=>rfl) hol hoo (by omega) hby rfl hgn hr9
theorem app_sl(h:Inv w0 E H w)(A:AppF C w E H t u e k inf x vs z){i base nn:Nat}{c:Cp}(hr:appSl H e inf.size inf.bytes i base nn k c vs=some r):
  AppOk C H w0 E w (Builtin.append_ #[t,u] ty #[.slice (some ⟨(E i).1,base,none⟩) nn (c.re E i),x]) r:=by
 obtain⟨h0,hr⟩:=aab hr;obtain⟨b,h1,hr⟩:=aaa hr;obtain⟨q,h2,hr⟩:=aaa hr;obtain⟨h3,hr⟩:=aab hr;obtain⟨h4,hr⟩:=aab hr;obtain⟨h5,hr⟩:=aab hr;rw [aad]at h0 h3;rw [aac,aag]at h4;rw [aac]at h5;subst h0;rw [hbC_ok h2]at h1;obtain⟨t',md,xs⟩:=q;simp only at h3 h4 h1;subst h3;cases c with
 |k cc=>
  cases md with
  |ex=>exact app_ex h A h1 h4 h5 hr
  |fb=>exact app_fb h A h1 h4 h5 hr
  |_=>cases hr
 |r off=>
  obtain⟨h6,hr⟩:=aab (show bi (zac off 0) (Mo.rec (motive:=fun _=>WR') none (fun sz' mm=>appRw H t' inf.size i nn k sz' mm xs vs) none none md) none=some r from hr);rw [aad]at h6;subst h6;cases md with
  |rw sz' mm=>exact app_rw h A h1 h4 h5 hr
  |_=>cases hr
end
theorem evI_ok(h:Sd C m S n w0 E w){y:Operand}{k:Nat}(hv:evI m S y=some k):evn n (rF E S.F) y=.int .i64 (k:Int):=by
 obtain⟨u,h1,hv⟩:=aaa hv;obtain⟨q,h2,hv⟩:=aaa hv;obtain⟨h3,hv⟩:=aab hv;obtain⟨q',h4⟩:=asN_ok hv;have hx:=(aaj h h1).1;rw [hx,h4 E];have h5:=h4 E;rw [asI_ok h2]at h5;simp only [SC.re,Value.int.injEq]at h5;rw [<-h5.1,kn_inj h3]
theorem isStrV_ok{y:Operand}{l q:Nat}(h:evC m S y=some (.s l q)):isStrV m S y=true:=by
 unfold isStrV;rw [h];rfl
theorem ef_append(h:Sd C m S n w0 E w){t u:Nat}{x y:Operand}{r:Option SV×Hs}{du:TypeDesc}(hdu:C.P.underlying u=some du)(hss:isSS du=true)(hv:wAppend C m S t x y=some r):
  Efx C S n w0 E w ⟨d,.call ⟨.builtin .append, #[x,y], #[t,u]⟩,ty,pos,after,gd⟩ r:=by
 obtain⟨e,h1,hv⟩:=aaa hv;obtain⟨inf,h2,hv⟩:=aaa hv;rw [aaf]at hv;split at hv
 ·cases hv
 rename_i h3;rw [aad]at h3;obtain⟨zz,h4,hv⟩:=aaa hv;obtain⟨h5,hv⟩:=aab hv;obtain⟨nw,h6,hv⟩:=aaa hv;rw [aad,aag]at h5;obtain⟨k,vs⟩:=nw;obtain⟨zv,h7,h8,h9⟩:=abq h4 E S.H.nx w;have hz:inf.zero=some zv:=by
  simp only [zeroValue,typeInfo,Sem.run_bind]at h7;have hp:(program).run C.P w=.ok C.P w:=rfl;rw [hp]at h7;simp only [Result.andThen_ok,h2]at h7;cases hq:inf.zero with
  |none=>simp [hq,unsupported]at h7
  |some u=>simp [hq]at h7;rw [h7]
 have key:(∀l q,evC m S y=some (.s l q)->inf.size=1)->appTo m S e inf.size inf.bytes x (k,vs)=some r->Efx C S n w0 E w ⟨d,.call ⟨.builtin .append, #[x,y], #[t,u]⟩,ty,pos,after,gd⟩ r:=by
  intro hs1 hv;obtain⟨g1,g2,g3,g4⟩:=srcC_ok h h6 hs1;have hu:(∃e',C.P.underlying u=some (.slice e'))\/C.P.underlying u=some .string:=by
   rcases isSS_ok hss with⟨e',rfl⟩|rfl
   ·exact .inl ⟨e',hdu⟩
   ·exact .inr hdu
  have hf:∀w':World,(∀a,w'.cell? a=w.cell? a)->(Builtin.firstCells inf.size k (evn n (rF E S.F) y)).run C.P w'=.ok (vs.map (SC.re E)).toArray w':=fun w' hw'=>by
   have:=g4 w' k hw' (zab _)
   rw [List.take_of_length_le (by rw [g1];exact zab _)]at this;exact this
  have A:AppF C w E S.H t u e k inf (evn n (rF E S.F) y) vs zv:=⟨hz,by rw [h8];simpa using h5,h3,g1,g2,
   fun hr _ hst=>app_fits (aak h1) hu h2 (g3 w) (hf w fun _=>rfl) hr hst,
   fun hfo hg hb=>app_grows (aak h1) hu h2 hz (g3 w) (hf w.drew fun _=>rfl) hfo hg hb h3,
   fun hk=>by
    subst hk;have hv0:vs=[]:=List.eq_nil_of_length_eq_zero (by rw [g1];simp);have hf0:=hf w (fun _=>rfl);rw [hv0]at hf0;exact app_nil0 (aak h1) hu h2 (g3 w) hf0⟩
  obtain⟨v,h10,hv⟩:=aaa hv;obtain⟨hx,hok⟩:=aaj h h10;have fin:AppOk C S.H w0 E w (Builtin.append_ #[t,u] ty #[evn n (rF E S.F) x,evn n (rF E S.F) y]) r->Efx C S n w0 E w ⟨d,.call ⟨.builtin .append, #[x,y], #[t,u]⟩,ty,pos,after,gd⟩ r:=by
   rintro⟨v,E',w',f1,f2,f3,f4,f5,f6⟩
   obtain⟨r1,r2⟩:=r;simp only at f1;subst f1;refine⟨E',w',f2,f3,f4,f5, ?_⟩
   simp [execOp,resolve,invoke,builtin,f6,aal]
  apply fin
  rw [hx];cases v with
  |ns=>exact app_nil h.inv A hv
  |sl i base nn c=>exact app_sl h.inv A hv
  |_=>cases hv
 rw [aaf]at hv;split at hv
 ·obtain⟨h10,hv⟩:=aab hv;rw [aad]at h10;exact key (fun _ _ _=>h10) hv
 ·rename_i hs;exact key (fun l q hq=>absurd (isStrV_ok hq) hs) hv
theorem ef_appendZ(h:Sd C m S n w0 E w){t u:Nat}{x y:Operand}{r:Option SV×Hs}{du:TypeDesc}(hdu:C.P.underlying u=some du)(hv:wAppZ C m S t du x y=some r):
  Efx C S n w0 E w ⟨d,.call ⟨.builtin .append, #[x,y], #[t,u]⟩,ty,pos,after,gd⟩ r:=by
 obtain⟨q,h0,hv⟩:=aaa hv;obtain⟨e,h1,hv⟩:=aaa hv;obtain⟨inf,h2,hv⟩:=aaa hv;rw [aaf]at hv;split at hv
 ·cases hv
 rename_i h3;rw [aad]at h3;obtain⟨zz,h4,hv⟩:=aaa hv;obtain⟨h5,hv⟩:=aab hv;obtain⟨k,h6,hv⟩:=aaa hv;rw [aaf]at hv;split at hv
 ·cases hv
 rename_i h11;rw [aad]at h11;rw [aad,aag]at h5;obtain⟨zv,h7,h8,h9⟩:=abq h4 E S.H.nx w;have hz:inf.zero=some zv:=by
  simp only [zeroValue,typeInfo,Sem.run_bind]at h7;have hp:(program).run C.P w=.ok C.P w:=rfl;rw [hp]at h7;simp only [Result.andThen_ok,h2]at h7;cases hq:inf.zero with
  |none=>simp [hq,unsupported]at h7
  |some u=>simp [hq]at h7;rw [h7]
 have hu:C.P.underlying u=some (.int q):=by
  rw [hdu];unfold uIn at h0;split at h0
  ·cases h0;rfl
  ·cases h0
 have hy:=evI_ok h h6;have hk0:k*inf.size≠0:=h11;have hnews:((lrep zz k).map (SC.re E)).toArray=Builtin.zeroCells zv.cells k:=by
  have e:=made_eq (E:=E) (z:=zz) (k:=k) h8;rw [<-e];unfold Builtin.zeroCells;rw [h8];simp
 have A:AppF C w E S.H t u e k inf (evn n (rF E S.F) y) (lrep zz k) zv:=⟨hz,by rw [h8];simpa using h5,h3,by rw [lrep_len,h5],lrep_mem h9 k,
  fun {ty A nn cap w'} hr hb hst=>by
   rw [hy];exact app_fitsZ (aak h1) hu h2 hz h3 (zap (Nat.mul_le_mul_right _ (by omega)) hb) hk0 hnews hr hst,
  fun hfo hg hb=>by
   rw [hy];exact app_growsZ (aak h1) hu h2 hz hk0 hnews hfo hg hb h3,
  fun hk=>absurd (by rw [hk];simp) hk0⟩
 obtain⟨v,h10,hv⟩:=aaa hv;obtain⟨hx,hok⟩:=aaj h h10;have fin:AppOk C S.H w0 E w (Builtin.append_ #[t,u] ty #[evn n (rF E S.F) x,evn n (rF E S.F) y]) r->Efx C S n w0 E w ⟨d,.call ⟨.builtin .append, #[x,y], #[t,u]⟩,ty,pos,after,gd⟩ r:=by
  rintro⟨v,E',w',f1,f2,f3,f4,f5,f6⟩
  obtain⟨r1,r2⟩:=r;simp only at f1;subst f1;refine⟨E',w',f2,f3,f4,f5, ?_⟩
  simp [execOp,resolve,invoke,builtin,f6,aal]
 apply fin
 rw [hx];cases v with
 |ns=>exact app_nil h.inv A hv
 |sl i base nn c=>exact app_sl h.inv A hv
 |_=>cases hv
theorem ef_copy(h:Sd C m S n w0 E w){t u:Nat}{x y:Operand}{r:Option SV×Hs}(hv:wCopy C m S t x y=some r):Efx C S n w0 E w ⟨d,.call ⟨.builtin .copy, #[x,y], #[t,u]⟩,ty,pos,after,gd⟩ r:=by
 obtain⟨e,h1,hv⟩:=aaa hv;obtain⟨sz,h2,hv⟩:=aaa hv;obtain⟨nw,h6,hv⟩:=aaa hv;obtain⟨k,vs⟩:=nw;have key:(∀l q,evC m S y=some (.s l q)->sz=1)->copyV m S sz x (k,vs)=some r->Efx C S n w0 E w ⟨d,.call ⟨.builtin .copy, #[x,y], #[t,u]⟩,ty,pos,after,gd⟩ r:=by
  intro hs1 hv;obtain⟨g1,g2,g3,g4⟩:=srcC_ok h h6 hs1;obtain⟨v,h10,hv⟩:=aaa hv;obtain⟨hx,hok⟩:=aaj h h10;cases v with
  |ns=>
   have er:(some (SV.c (.i .i64 0)),S.H)=r:=Option.some.inj hv;subst er;have hx':evn n (rF E S.F) x=.slice none 0 0:=hx;refine⟨E,w,Ag.refl _ _,zab _,h.inv,trivial, ?_⟩
   have hf:=g4 w 0 (fun _=>rfl) (Nat.zero_le _);have hm:Nat.min k 0=0:=Nat.min_zero k;simp only [Nat.zero_mul,List.take_zero,List.map_nil]at hf;simp [execOp,resolve,invoke,builtin,hx',Builtin.copy_,run_underlying (aak h1),g3 w,aaq h2 w,hm,aal,SV.re,SC.re,goInt]
   rw [hf];rfl
  |z i base dd off=>
   have er:(some (SV.c (.i .i64 0)),S.H)=r:=Option.some.inj hv;subst er;have hx':evn n (rF E S.F) x=.slice (some ⟨(E i).1,if(E i).2-off=0 then base else base+dd,none⟩) 0 ((E i).2-off):=hx;refine⟨E,w,Ag.refl _ _,zab _,h.inv,trivial, ?_⟩
   have hf:=g4 w 0 (fun _=>rfl) (Nat.zero_le _);have hm:Nat.min k 0=0:=Nat.min_zero k;simp only [Nat.zero_mul,List.take_zero,List.map_nil]at hf;simp [execOp,resolve,invoke,builtin,hx',Builtin.copy_,run_underlying (aak h1),g3 w,aaq h2 w,hm,aal,SV.re,SC.re,goInt]
   rw [hf];rfl
  |sl i base nn c=>
   have hx':evn n (rF E S.F) x=.slice (some ⟨(E i).1,base,none⟩) nn (c.re E i):=hx;obtain⟨b,h11,hv⟩:=aaa (show copyTo S i base sz (bi (zad k nn) k nn) vs=some r from hv);obtain⟨q,h12,hv⟩:=aaa hv;obtain⟨h13,hv⟩:=aab hv;obtain⟨v,h14,hv⟩:=aaa hv;cases hv
   rw [aac,aag]at h13;have hmin:bi (zad k nn) k nn=Nat.min k nn:=by
    rw [aaf];simp only [aac];rfl
   rw [hmin]at h13 h14;have hle:Nat.min k nn<=k:=Nat.min_le_left k nn;rw [hbC_ok h12]at h11;have hz:Nat.min k nn*sz<=vs.length:=by rw [g1];exact Nat.mul_le_mul_right _ hle
   obtain⟨w',h15,h16⟩:=inv_store (C:=C) (off:=base) (vs:=vs.take (Nat.min k nn*sz)) h.inv h11 (by
    have h13':base+Nat.min k nn*sz<=q.2.2.length:=h13;rw [List.length_take];omega) (fun y hy=>g2 y (List.mem_of_mem_take hy))
   obtain⟨h17,h18⟩:=iOf_ok h14;refine⟨E,w',Ag.refl _ _,zab _, ?_,by rw [h17];trivial, ?_⟩
   ·rw [hmin,abc];exact h16
   ·have hf:=g4 w (Nat.min k nn) (fun _=>rfl) hle;simp only [execOp,resolve,invoke,builtin,List.map_toArray,zal,List.map_nil,hx',Builtin.copy_,Sem.run_bind,Sem.run_pure,Result.andThen_ok];simp [run_underlying (aak h1),g3 w,aaq h2 w,aal,h18,goInt]
    rw [hf];simp only [Result.andThen_ok,List.toList_toArray,h15]
  |_=>cases hv
 rw [aaf]at hv;split at hv
 ·obtain⟨h10,hv⟩:=aab hv;rw [aad]at h10;exact key (fun _ _ _=>h10) hv
 ·rename_i hs;exact key (fun l q hq=>absurd (isStrV_ok hq) hs) hv
theorem hbI_ok{b:HB}{q:Nat×Nat×Nat}(h:b.asI=some q):b=.it q.1 q.2.1 q.2.2:=by
 cases b<;>first|(cases h;rfl)|cases h
theorem ef_range(h:Sd C m S n w0 E w){t:Nat}{x:Operand}{r:Option SV×Hs}(hv:wRange C m S t x=some r):Efx C S n w0 E w ⟨d,.range t x,ty,pos,after,gd⟩ r:=by
 obtain⟨v,h1,hv⟩:=aaa hv;obtain⟨q,h2,hv⟩:=aaa hv;obtain⟨_,h3,hv⟩:=aaa hv;cases hv
 have hx:=(aaj h h1).1;obtain rfl:=asS_ok h2;have hx':evn n (rF E S.F) x=.string ⟨(dec q.1 q.2).toArray⟩:=hx;refine⟨eat E S.H.nx (w.heap.size,0),w.alloc (.stringIter ⟨(dec q.1 q.2).toArray⟩ 0),aav E _ _,Nat.le_succ _, ?_,zas _, ?_⟩
 ·refine inv_new (o:=.stringIter ⟨(dec q.1 q.2).toArray⟩ 0) h.inv rfl trivial ?_ ?_ rfl
  ·simp only [resOf,sit,aah]
  ·simp only [resOf,sit]
 ·simp [execOp,hx',Instr.range,run_underlying (abu h3),aal,SV.re,SC.re,aah]
theorem ef_next(h:Sd C m S n w0 E w){x:Operand}{bs:Bool}{r:Option SV×Hs}(hv:wNext m S x bs=some r):Efx C S n w0 E w ⟨d,.next x bs,ty,pos,after,gd⟩ r:=by
 obtain⟨h0,hv⟩:=aab hv;obtain⟨v,h1,hv⟩:=aaa hv;obtain⟨p,h2,hv⟩:=aaa hv;obtain⟨h3,hv⟩:=aab hv;obtain⟨b,h4,hv⟩:=aaa hv;obtain⟨q,h5,hv⟩:=aaa hv;subst h0;rw [aad]at h3;obtain⟨hx,hok⟩:=aaj h h1;obtain⟨i,off⟩:=p;obtain rfl:=asP_ok h2;have h3':off=0:=h3;subst h3';have hx':evn n (rF E S.F) x=.pointer (some ⟨(E i).1,0,none⟩):=hx;rw [hbI_ok h5]at h4;obtain⟨l,y,pos'⟩:=q;have h4':S.H.t.get i=some (.it l y pos'):=h4;have hres:=(h.inv.hp.res _ (List.mem_of_getElem? (h.inv.at h4'))).1;have hh:w.heap[(E i).1]? =some (.stringIter ⟨(dec l y).toArray⟩ pos'):=hres;have hsz:(⟨(dec l y).toArray⟩:ByteArray).size=l:=aai l y;have hgo:(getObj (E i).1).run C.P w=.ok (.stringIter ⟨(dec l y).toArray⟩ pos') w:=by simp [getObj,Sem.run,hh]
 rw [aaf]at hv;split at hv
 ·rename_i hlt;rw [aac]at hlt;have hlt':pos'<l:=hlt;obtain⟨v1,h6,hv⟩:=aaa hv;obtain⟨v2,h7,hv⟩:=aaa hv;cases hv
  obtain⟨rfl,h8⟩:=iOf_ok h6;obtain⟨rfl,h9⟩:=iOf_ok h7
  let dd:=Utf8.decode ⟨(dec l y).toArray⟩ pos'
  have hso:(setObj (E i).1 (.stringIter ⟨(dec l y).toArray⟩ (pos'+dd.2))).run C.P w=.ok () {w with heap:=w.heap.setIfInBounds (E i).1 (.stringIter ⟨(dec l y).toArray⟩ (pos'+dd.2))}:=by simp [setObj,Sem.run,hh]
  refine⟨E,_,Ag.refl _ _,zab _,h.inv.upd hok trivial (h.inv.hp.setIt i (E i).1 (dec l y) pos' (pos'+dd.2) (h.inv.at h4')), ?_, ?_⟩
  ·intro a ha;simp at ha
   rcases ha with rfl|rfl|rfl<;>trivial
  ·have h8':=h8 E;have h9':=h9 E;simp only [SV.re]at h8' h9';simp only [execOp,hx',Instr.next,Sem.run_bind,hgo,Result.andThen_ok,hsz,if_pos hlt']
   show(Result.andThen (Result.andThen ((setObj (E i).1 (.stringIter ⟨(dec l y).toArray⟩ (pos'+dd.2))).run C.P w) _) _)=_
   rw [hso];simp only [Result.andThen_ok,Sem.run_pure,aal,SV.re,zal,List.map_nil,SA.re];rw [h8',h9'];rfl
 ·rename_i hlt;rw [aac]at hlt;have hlt':¬pos'<l:=hlt;cases hv
  refine⟨E,w,Ag.refl _ _,zab _,h.inv, ?_, ?_⟩
  ·intro a ha;simp at ha
   subst ha;trivial
  ·simp only [execOp,hx',Instr.next,Sem.run_bind,hgo,Result.andThen_ok,hsz,if_neg hlt'];simp only [Result.andThen_ok,Sem.run_pure,aal,SV.re,zal,List.map_nil,SA.re,SC.re]
theorem capOk_ok(h:Sd C m S n w0 E w){i k:Nat}{c:Cp}(hv:capOk S i k c=true):k<=c.re E i:=by
 cases c with
 |k cc=>have h':zad k cc=true:=hv;rw [aac]at h';exact h'
 |r off=>
  have:=room_ok h (show room S i (off+k)=true from hv)
  show k<=(E i).2-off;omega
theorem ef_sd(h:Sd C m S n w0 E w){ts:Array TypeId}{x:Operand}{r:Option SV×Hs}(hv:wSD m S x=some r):Efx C S n w0 E w ⟨d,.call ⟨.builtin .unsafeSliceData, #[x],ts⟩,ty,pos,after,gd⟩ r:=by
 obtain⟨v,h1,hv⟩:=aaa hv;obtain⟨hx,hok⟩:=aaj h h1;cases v with
 |ns=>
  have er:(some (SV.c .np),S.H)=r:=Option.some.inj hv;subst er;have hx':evn n (rF E S.F) x=.slice none 0 0:=hx;refine⟨E,w,Ag.refl _ _,zab _,h.inv,trivial, ?_⟩
  simp [execOp,resolve,invoke,builtin,hx',Lib.run_unsafeSliceData_nil,aal,SV.re,SC.re]
 |sl i base nn c=>
  obtain⟨h2,hv⟩:=aab (show bi (zad 1 nn) (bi (capOk S i nn c) (some (some (SV.c (.p i base)),S.H)) none) none=some r from hv);obtain⟨h3,hv⟩:=aab hv;cases hv
  rw [aac]at h2;have h4:=capOk_ok h h3;have hx':evn n (rF E S.F) x=.slice (some ⟨(E i).1,base,none⟩) nn (c.re E i):=hx;refine⟨E,w,Ag.refl _ _,zab _,h.inv,hok, ?_⟩
  have hr:=Lib.run_unsafeSliceData_row (P:=C.P) (w:=w) ts ty ⟨(E i).1,base,none⟩ nn (c.re E i) (by omega);simp [execOp,resolve,invoke,builtin,hx',hr,aal,SV.re,SC.re]
 |_=>cases hv
theorem tPt_ok{t e:Nat}(hv:tPt C t=some e):C.P.underlying t=some (.pointer e):=by
 obtain⟨dd,h1,h2⟩:=aaa hv;unfold uPt at h2;split at h2
 ·cases h2;exact h1
 ·cases h2
theorem evI_lt{y:Operand}{k:Nat}(hv:evI m S y=some k):k<=9223372036854775807:=by
 obtain⟨u,h1,hv⟩:=aaa hv;obtain⟨q,h2,hv⟩:=aaa hv;obtain⟨h3,hv⟩:=aab hv;obtain⟨q',h4,hv⟩:=aaa hv;rw [h2]at h4;cases h4
 obtain⟨kk,a⟩:=q;obtain rfl:=kn_inj h3;obtain⟨h5,h6⟩:=aab (show bi (zad (a%km .i64+1) (kh .i64)) (some (a%km .i64)) none=some k from hv);cases h6
 rw [aac]at h5
 have:kh .i64=9223372036854775808:=rfl
 omega
theorem ef_us(h:Sd C m S n w0 E w){pt it:Nat}{x y:Operand}{r:Option SV×Hs}(hv:wUS C m S pt x y=some r):Efx C S n w0 E w ⟨d,.call ⟨.builtin .unsafeString, #[x,y], #[pt,it]⟩,ty,pos,after,gd⟩ r:=by
 obtain⟨k,h1,hv1⟩:=aaa hv;obtain⟨v,h2,hv2⟩:=aaa hv1;clear hv hv1;have hy:=evI_ok h h1;obtain⟨hx,hok⟩:=aaj h h2;rw [aaf]at hv2;split at hv2
 ·rename_i h0;rw [aad]at h0;have h0:k=0:=h0;obtain⟨h3,hv3⟩:=aab hv2;cases hv3
  subst h0;refine⟨E,w,Ag.refl _ _,zab _,h.inv,trivial, ?_⟩
  have:∃p,evn n (rF E S.F) x=.pointer p:=by
   rw [hx];cases v<;>first|exact⟨_,rfl⟩|cases h3
  obtain⟨p,hp⟩:=this;have hr:=Lib.run_unsafeString_none (P:=C.P) (w:=w) pt it ty p;have hy':evn n (rF E S.F) y=.int .i64 0:=hy;simp [execOp,resolve,invoke,builtin,hp,hy',hr,aal,SV.re,SC.re]
  rfl
 ·rename_i h0;rw [aad]at h0;have h0:¬k=0:=h0;obtain⟨p,h3,hv⟩:=aaa hv2;obtain⟨h4,hv⟩:=aab hv;obtain⟨b,h5,hv⟩:=aaa hv;obtain⟨q,h6,hv⟩:=aaa hv;obtain⟨e,h7,hv⟩:=aaa hv;obtain⟨h8,hv⟩:=aab hv;obtain⟨h9,hv⟩:=aab hv;obtain⟨h10,hv⟩:=aab hv;obtain⟨h11,hv⟩:=aab hv;obtain⟨z,h12,hv⟩:=aaa hv;cases hv
  obtain⟨i,off⟩:=p;obtain rfl:=asP_ok h3;rw [aad]at h4 h8 h9;have h4:off=0:=h4;subst h4;rw [hbC_ok h6]at h5;obtain⟨t,md,xs⟩:=q;have h5:S.H.t.get i=some (.cl t md xs):=h5;have h8:t=e:=h8;subst h8;rw [aac,aag]at h11;have h11:k<=xs.length:=h11;obtain⟨cur,t',fz,c1,c2,c3,c4,c5⟩:=h.inv.cells h5;have ht:t'=t:=by
   rcases c2 with rfl|c2
   ·cases h10
   ·exact c2
  subst ht;have hx':evn n (rF E S.F) x=.pointer (some ⟨(E i).1,0,none⟩):=hx;have hz:=encC_ok h12 E;rw [abc]at hz;have hzl:(xs.take k).length=k:=by simp;omega
  rw [hzl]at hz;have hdl:(dec k z).length=k:=aai k z;have hr:=Lib.run_unsafeString_row (P:=C.P) (w:=w) pt it ty t' (tPt_ok h7) h9 (E i).1 cur.size (by simp [World.shape?,c1]) (dec k z) (fun e=>h0 (by rw [<-hdl,e];rfl)) (by rw [hdl];first|omega|(rw [zaf]at c3;omega)) (by
   rw [hdl];exact evI_lt h1) (fun j u hj=>by
    rw [aan,Nat.zero_add];have e1:=congrArg (fun l=>l[j]?) hz;simp only [List.getElem?_map,hj,Option.map_some]at e1;rw [List.getElem?_take]at e1;split at e1
    ·obtain⟨y',hy1,hy2⟩:=Option.map_eq_some_iff.1 e1;rw [h.inv.cell h5 hy1,hy2];rfl
    ·cases e1)
  rw [hdl]at hr;refine⟨E,w.freeze ⟨(E i).1,0,none⟩ k,Ag.refl _ _,zab _, ?_,trivial, ?_⟩
  ·refine h.inv.upd hok trivial ?_;refine h.inv.hp.change i _ _ (h.inv.at h5) ?_ ?_ ?_ ?_ (fun j hj hne=> ?_) ?_ (fun b hb=> ?_)
   ·unfold World.freeze;rw [if_neg h0]
   ·unfold World.freeze;rw [if_neg h0]
   ·unfold World.freeze;rw [if_neg h0]
   ·unfold World.freeze;rw [if_neg h0];simp
   ·unfold World.freeze;rw [if_neg h0];simp only [Array.getElem?_modify];rw [if_neg (fun e=>hne (by simp only [resOf,cres];rw [<-e]))]
   ·trivial
   ·cases hb
  ·simp [execOp,resolve,invoke,builtin,hx',hy,hr,aal,SV.re,SC.re]
   rfl
theorem tMp_ok{t:Nat}{q:Nat×Nat}(hv:tMp C t=some q):C.P.underlying t=some (.map q.1 q.2):=by
 obtain⟨dd,h1,h2⟩:=aaa hv;unfold uMp at h2;split at h2
 ·cases h2;exact h1
 ·cases h2
theorem asM_ok{x:SC}{i:Nat}(h:x.asM=some i):x=.m i:=by
 cases x<;>first|(cases h;rfl)|cases h
theorem hbM_ok{b:HB}{es:List (SC×SC)}(h:b.asM=some es):b=.mp es:=by
 cases b<;>first|(cases h;rfl)|cases h
def KeyT(d:TypeDesc)(x:SC):Prop:=(∃k n,d=.int k/\x=.i k n)\/(∃l y,d=.string/\x=.s l y)
theorem keyOk_ok{t:Nat}{x:SC}{u:Unit}(hv:keyOk C t x=some u):∃d,C.P.underlying t=some d/\KeyT d x:=by
 obtain⟨dd,h1,h2⟩:=aaa hv;refine⟨dd,h1, ?_⟩
 split at h2
 ·rename_i k;obtain⟨q,h3,h4⟩:=aaa h2;obtain⟨h5,_⟩:=aab h4;obtain rfl:=asI_ok h3;obtain rfl:=kn_inj h5;exact .inl ⟨_,_,rfl,rfl⟩
 ·obtain⟨q,h3,_⟩:=aaa h2;obtain rfl:=asS_ok h3;exact .inr ⟨_,_,rfl,rfl⟩
 ·cases h2
theorem ba_beq(a b:List UInt8):((⟨a.toArray⟩:ByteArray)==⟨b.toArray⟩)=decide (a=b):=by
 show(a.toArray==b.toArray)=_
 rw [zau];simp
theorem keq_ok{d:TypeDesc}{x y:SC}{b:Bool}(hk:KeyT d x)(hv:keq x y=some b)(E:En):Instr.sameNow d (x.re E) (y.re E)=some b/\(b=true->Instr.sameBits 10000 (y.re E) (x.re E)=true):=by
 rcases hk with⟨k,n,rfl,rfl⟩|⟨l,z,rfl,rfl⟩
 ·obtain⟨q,h1,h2⟩:=aaa (show(ob y.asI fun q=>bi (zac (kn k) (kn q.1)) (some (ieqN k n q.2)) none)=some b from hv);obtain⟨h3,h4⟩:=aab h2;obtain⟨k',c⟩:=q;obtain rfl:=asI_ok h1;obtain rfl:=kn_inj h3;cases h4
  rw [ieqN_eq];simp only [SC.re,Instr.sameNow,if_true];refine⟨?_,fun h=> ?_⟩
  ·congr 1
  ·have:=of_decide_eq_true h
   simp [Instr.sameBits,this]
 ·obtain⟨q,h1,h2⟩:=aaa (show(ob y.asS fun q=>some (seq l z q.1 q.2))=some b from hv);obtain rfl:=asS_ok h1;cases h2
  rw [seq_eq];simp only [SC.re,str,Instr.sameNow];refine⟨?_,fun h=> ?_⟩
  ·rw [ba_beq]
  ·have:=of_decide_eq_true h
   simp [Instr.sameBits,this,ba_beq]
def mapR(E:En)(r:Option (Nat×SC))(k:Nat):Option (Nat×Value):=r.map fun z=>(k+z.1,z.2.re E)
theorem mfind_ok{d:TypeDesc}{x:SC}(hk:KeyT d x)(E:En):∀(es:List (SC×SC)) (ms:List MapEntry) (r:Option (Nat×SC)) (j:Nat),mfind x es=some r->ms.map (fun e=>(e.key,e.val))=es.map (fun p=>(p.1.re E,p.2.re E))->
  Instr.findNow d (x.re E) ms j=some (mapR E r j)/\(∀z,r=some z->∃e:MapEntry,ms[z.1]? =some e/\Instr.sameBits 10000 e.key (x.re E)=true/\z.1<es.length/\∃p∈es,p.2=z.2)
 |[],ms,r,j,h,hm=>by
  cases h
  have:ms=[]:=by cases ms with|nil=>rfl|cons a l=>simp at hm
  subst this;exact⟨rfl,fun z hz=>by cases hz⟩
 |e::es,ms,r,j,h,hm=>by
  obtain⟨b,h1,h2⟩:=aaa (show(ob (keq x e.1) fun b=>bi b (some (some (0,e.2))) (ob (mfind x es) fun q=>some (zaa none (fun z=>some (zam z.1,z.2)) q)))=some r from h);cases ms with
  |nil=>simp at hm
  |cons m ms=>
   simp only [zal,List.cons.injEq,Prod.mk.injEq]at hm;obtain⟨⟨m1,m2⟩,m3⟩:=hm;obtain⟨k1,k2⟩:=keq_ok hk h1 E;cases b with
   |true=>
    have h2':some (some (0,e.2))=some r:=h2;cases h2'
    refine⟨?_,fun z hz=> ?_⟩
    ·unfold Instr.findNow;rw [m1,k1];simp [mapR,m2]
    ·cases hz
     exact⟨m,rfl,by rw [m1];exact k2 rfl,by simp,e,by simp,rfl⟩
   |false=>
    obtain⟨q,h3,h4⟩:=aaa (show(ob (mfind x es) fun q=>some (zaa none (fun z=>some (zam z.1,z.2)) q))=some r from h2);cases h4
    obtain⟨i1,i2⟩:=mfind_ok hk E es ms q (j+1) h3 m3;refine⟨?_,fun z hz=> ?_⟩
    ·unfold Instr.findNow;rw [m1,k1];simp only;rw [i1];cases q with
     |none=>rfl
     |some z=>simp only [mapR,Option.map_some];congr 3;omega
    ·cases q with
     |none=>cases hz
     |some y=>
      have hz':some (zam y.1,y.2)=some z:=hz;cases hz'
      obtain⟨e',f1,f2,f3,p,f4,f5⟩:=i2 y rfl;exact⟨e',by simpa using f1,f2,by simp;omega,p,by simp [f4],f5⟩
theorem checkKey_ok{t:Nat}{d:TypeDesc}{x:SC}(E:En)(b:Bool)(h:C.P.underlying t=some d)(hk:KeyT d x)(w:World):(Instr.checkKey b 10000 t (x.re E)).run C.P w=.ok () w:=by
 have e:Instr.checkKey b 10000 t (x.re E)=Instr.checkKey b (9999+1) t (x.re E):=rfl;rw [e,Instr.checkKey];rcases hk with⟨k,n,rfl,rfl⟩|⟨l,z,rfl,rfl⟩<;>simp [run_underlying h,SC.re,str]
theorem findKey_ok{t:Nat}{d:TypeDesc}{x:SC}(E:En)(h:C.P.underlying t=some d){ms:List MapEntry}{r:Option (Nat×Value)}(hr:Instr.findNow d (x.re E) ms 0=some r)(w:World):(Instr.findKey t (x.re E) ms).run C.P w=.ok r w:=by
 simp [Instr.findKey,run_underlying h,hr]
theorem ef_makeMap(h:Sd C m S n w0 E w){t:Nat}{x:Option Operand}{r:Option SV×Hs}(hv:wMakeMap C m S t x=some r):Efx C S n w0 E w ⟨d,.makeMap t x,ty,pos,after,gd⟩ r:=by
 obtain⟨q,h1,hv⟩:=aaa hv;obtain⟨a,h2,hv⟩:=aaa hv;cases hv
 have ht:=tMp_ok h1;refine⟨eat E S.H.nx (w.heap.size,0),w.alloc (.map #[] 0),aav E _ _,Nat.le_succ _, ?_,zas _, ?_⟩
 ·refine inv_new (o:=.map #[] 0) h.inv rfl (fun p hp=>by cases hp) ?_ ?_ rfl
  ·simp only [resOf,mpres,aah]
  ·exact⟨#[],0,rfl,rfl⟩
 ·rcases evND_ok h h2 with⟨rfl,_⟩|⟨y,q',rfl,h3⟩
  ·simp [execOp,Instr.makeMap,aal,SV.re,SC.re,aah]
  ·simp [execOp,Instr.makeMap,run_underlying ht,h3,asInt,asIntOf,aal,SV.re,SC.re,aah]
theorem biT{α:Type}(x y:α):bi true x y=x:=rfl
theorem biF{α:Type}(x y:α):bi false x y=y:=rfl
theorem reB(E:En)(b:Bool):(SC.b b).re E=.bool b:=rfl
theorem mapAt(h:Sd C m S n w0 E w){i:Nat}{es:List (SC×SC)}(h4:S.H.t.get i=some (.mp es)):∃ms clock,w.heap[(E i).1]? =some (.map ms clock)/\ms.toList.map (fun e=>(e.key,e.val))=es.map (fun p=>(p.1.re E,p.2.re E))/\(∀p∈es,p.1.ok S.H.nx/\p.2.ok S.H.nx):=by
 have hres:=(h.inv.hp.res _ (List.mem_of_getElem? (h.inv.at h4))).1;obtain⟨ms,clock,e1,e2⟩:=hres;exact⟨ms,clock,e1,e2,h.inv.ok i _ h4⟩
theorem ef_lookup(h:Sd C m S n w0 E w){t:Nat}{x ix:Operand}{bo:Bool}{r:Option SV×Hs}(hv:wLookup C m S t x ix bo=some r):Efx C S n w0 E w ⟨d,.lookup t x ix bo,ty,pos,after,gd⟩ r:=by
 obtain⟨q,h1,hv⟩:=aaa hv;obtain⟨v,h2,hv⟩:=aaa hv;obtain⟨i,h3,hv⟩:=aaa hv;obtain⟨b,h4,hv⟩:=aaa hv;obtain⟨es,h5,hv⟩:=aaa hv;obtain⟨k,h6,hv⟩:=aaa hv;obtain⟨u,h7,hv⟩:=aaa hv;obtain⟨f,h8,hv⟩:=aaa hv;obtain⟨y,h9,hv⟩:=aaa hv;cases hv
 have ht:=tMp_ok h1;obtain rfl:=asM_ok h3;obtain rfl:=hbM_ok h5;have hx:evn n (rF E S.F) x=.map (some (E i).1):=(aaj h h2).1;obtain⟨hk,hkok⟩:=aaj h h6;obtain⟨ms,clock,g1,g2,g3⟩:=mapAt h h4;obtain⟨dk,h10,h11⟩:=keyOk_ok h7;obtain⟨f1,f2⟩:=mfind_ok h11 E es ms.toList f 0 h8 g2;have hgo:(getObj (E i).1).run C.P w=.ok (.map ms clock) w:=by simp [getObj,Sem.run,g1]
 have hc:=fun b=>checkKey_ok (C:=C) E b h10 h11 w
 have hf:=findKey_ok (C:=C) E h10 f1 w;cases f with
 |none=>
  obtain⟨z,e1,e2⟩:=aaa (show(ob (sval C.P (zeroValue q.2)) cvc)=some y from h9);obtain⟨e3,e4⟩:=cvc_ok e2 E S.H.nx;have e5:=abv e1 w;have hf':(Instr.findKey q.1 (k.re E) ms.toList).run C.P w=.ok none w:=hf;cases bo with
  |true=>
   refine⟨E,w,Ag.refl _ _,zab _,h.inv, ?_, ?_⟩
   ·intro a ha;simp at ha
    rcases ha with rfl|rfl
    ·exact e4
    ·trivial
   ·simp [execOp,hx,hk,Instr.lookup,run_underlying ht,hgo,hc,hf',e5,aal,biT,biF,SV.re,SA.re,reB,e3]
  |false=>
   refine⟨E,w,Ag.refl _ _,zab _,h.inv,e4, ?_⟩
   simp [execOp,hx,hk,Instr.lookup,run_underlying ht,hgo,hc,hf',e5,aal,biT,biF,SV.re,SA.re,reB,e3]
 |some z=>
  have e1:some z.2=some y:=h9;cases e1
  obtain⟨e',_,_,_,p,p1,p2⟩:=f2 z rfl;have e4:z.2.ok S.H.nx:=by rw [<-p2];exact(g3 p p1).2
  have hf':(Instr.findKey q.1 (k.re E) ms.toList).run C.P w=.ok (some (0+z.1,z.2.re E)) w:=hf;cases bo with
  |true=>
   refine⟨E,w,Ag.refl _ _,zab _,h.inv, ?_, ?_⟩
   ·intro a ha;simp at ha
    rcases ha with rfl|rfl
    ·exact e4
    ·trivial
   ·simp [execOp,hx,hk,Instr.lookup,run_underlying ht,hgo,hc,hf',aal,biT,biF,SV.re,SA.re,reB]
  |false=>
   refine⟨E,w,Ag.refl _ _,zab _,h.inv,e4, ?_⟩
   simp [execOp,hx,hk,Instr.lookup,run_underlying ht,hgo,hc,hf',aal,biT,biF,SV.re,SA.re,reB]
theorem mput_eq(x:SC×SC):∀(es:List (SC×SC)) (j:Nat),mput es x j=es.set j x
 |[],j=>rfl
 |e::es,0=>rfl
 |e::es,j+1=>congrArg (e::·) (mput_eq x es j)
theorem _root_.Go.Wk.Hp.setMp{w0 w:World}{S:List Nat}{L:List Res}(h:Hp w0 S L w)(k b:Nat)(l l':List (Value×Value))(ms:Array MapEntry)(c:Nat)(hk:L[k]? =some (mpres b l))(hm:ms.toList.map (fun e=>(e.key,e.val))=l'):
  Hp w0 S (L.set k (mpres b l')) {w with heap:=w.heap.setIfInBounds b (.map ms c)}:=by
 have hb:=((h.res _ (List.mem_of_getElem? hk)).2 b rfl).1;refine h.change k _ _ hk rfl rfl rfl (by simp) (fun j hj hne=> ?_) ?_ (fun c hc=> ?_)
 ·show(w.heap.setIfInBounds b _)[j]? =_
  rw [Array.getElem?_setIfInBounds_ne (fun e=>hne (by rw [e];rfl))]
 ·show∃es clock,(w.heap.setIfInBounds b _)[b]? =_/\_
  exact⟨ms,c,by simp [hb],hm⟩
 ·cases hc
  exact⟨.inl rfl,by simpa using hb⟩
theorem ef_mapUpd(h:Sd C m S n w0 E w){t:Nat}{x ix y:Operand}{r:Option SV×Hs}(hv:wMapUpd C m S t x ix y=some r):Efx C S n w0 E w ⟨d,.mapUpdate t x ix y,ty,pos,after,gd⟩ r:=by
 obtain⟨q,h1,hv⟩:=aaa hv;obtain⟨v,h2,hv⟩:=aaa hv;obtain⟨i,h3,hv⟩:=aaa hv;obtain⟨b,h4,hv⟩:=aaa hv;obtain⟨es,h5,hv⟩:=aaa hv;obtain⟨k,h6,hv⟩:=aaa hv;obtain⟨u,h7,hv⟩:=aaa hv;obtain⟨z,h8,hv⟩:=aaa hv;obtain⟨f,h9,hv⟩:=aaa hv;cases hv
 have ht:=tMp_ok h1;obtain rfl:=asM_ok h3;obtain rfl:=hbM_ok h5;obtain⟨hx,hxok⟩:=aaj h h2;have hx:evn n (rF E S.F) x=.map (some (E i).1):=hx;obtain⟨hk,hkok⟩:=aaj h h6;obtain⟨hz,hzok⟩:=aaj h h8;obtain⟨ms,clock,g1,g2,g3⟩:=mapAt h h4;obtain⟨dk,h10,h11⟩:=keyOk_ok h7;obtain⟨f1,f2⟩:=mfind_ok h11 E es ms.toList f 0 h9 g2;have hgo:(getObj (E i).1).run C.P w=.ok (.map ms clock) w:=by simp [getObj,Sem.run,g1]
 have hc:=fun b=>checkKey_ok (C:=C) E b h10 h11 w
 have hf:=findKey_ok (C:=C) E h10 f1 w;have hso:∀ms' c',(setObj (E i).1 (.map ms' c')).run C.P w=.ok () {w with heap:=w.heap.setIfInBounds (E i).1 (.map ms' c')}:=fun ms' c'=>by simp [setObj,Sem.run,g1]
 cases f with
 |none=>
  have hf':(Instr.findKey q.1 (k.re E) ms.toList).run C.P w=.ok none w:=hf;refine⟨E,_,Ag.refl _ _,zab _,h.inv.upd hxok ?_ (h.inv.hp.setMp i (E i).1 _ _ (ms.push {key:=k.re E,val:=z.re E,born:=clock}) (clock+1) (h.inv.at h4) ?_),trivial, ?_⟩
  ·intro p hp;have hp:p∈lapp es [(k,z)]:=hp;rw [abf]at hp;rcases List.mem_append.1 hp with hp|hp
   ·exact g3 p hp
   ·simp at hp;subst hp;exact⟨hkok,hzok⟩
  ·rw [Array.toList_push,zav,g2];show _=(lapp es [(k,z)]).map _;rw [abf,zav];rfl
  ·simp [execOp,hx,hk,hz,Instr.mapUpdate,run_underlying ht,hgo,hc,hf',hso,aal]
 |some zz=>
  obtain⟨e',p1,p2,p3,p,p4,p5⟩:=f2 zz rfl;have hf':(Instr.findKey q.1 (k.re E) ms.toList).run C.P w=.ok (some (0+zz.1,zz.2.re E)) w:=hf;have hke:((ms[zz.1]?.map (·.key)).getD (k.re E))=e'.key:=by
   rw [Array.getElem?_toList]at p1;rw [p1];rfl
  refine⟨E,_,Ag.refl _ _,zab _,h.inv.upd hxok ?_ (h.inv.hp.setMp i (E i).1 _ _ (ms.modify zz.1 fun e=>{e with key:=k.re E,val:=z.re E}) clock (h.inv.at h4) ?_),trivial, ?_⟩
  ·intro p hp;have hp:p∈mput es (k,z) zz.1:=hp;rw [mput_eq]at hp;rcases List.mem_or_eq_of_mem_set hp with hp|rfl
   ·exact g3 p hp
   ·exact⟨hkok,hzok⟩
  ·show _=(mput es (k,z) zz.1).map _;rw [mput_eq,List.map_set,<-g2];refine List.ext_getElem? fun j=> ?_
   simp only [List.getElem?_map,Array.getElem?_toList,Array.getElem?_modify,List.getElem?_set,zaf,Array.length_toList];by_cases hj:zz.1=j
   ·subst hj;cases hm:ms[zz.1]? with
    |none=>
     have:ms.size<=zz.1:=by simpa using hm
     simp;omega
    |some m=>
     obtain⟨hl,_⟩:=Array.getElem?_eq_some_iff.1 hm;simp [hl]
   ·simp [hj]
  ·simp [execOp,hx,hk,hz,Instr.mapUpdate,run_underlying ht,hgo,hc,hf',hso,aal,Instr.keyThatStays,hke,p2]
theorem ef_clear(h:Sd C m S n w0 E w){t:Nat}{x:Operand}{r:Option SV×Hs}(hv:wClear C m S t x=some r):Efx C S n w0 E w ⟨d,.call ⟨.builtin .clear, #[x], #[t]⟩,ty,pos,after,gd⟩ r:=by
 obtain⟨e,h1,hv⟩:=aaa hv;obtain⟨z,h2,hv⟩:=aaa hv;obtain⟨v,h3,hv⟩:=aaa hv;obtain⟨hx,hok⟩:=aaj h h3;obtain⟨zv,h7,h8,h9⟩:=abq h2 E S.H.nx w;cases v with
 |ns=>
  have er:(some (SV.t []),S.H)=r:=Option.some.inj hv;subst er;have hx':evn n (rF E S.F) x=.slice none 0 0:=hx;refine⟨E,w,Ag.refl _ _,zab _,h.inv,(fun y hy=>by cases hy), ?_⟩
  simp [execOp,resolve,invoke,builtin,hx',Builtin.clear_,run_underlying (aak h1),aal,SV.re]
 |z i base dd off=>
  have er:(some (SV.t []),S.H)=r:=Option.some.inj hv;subst er;have hx':evn n (rF E S.F) x=.slice (some ⟨(E i).1,if(E i).2-off=0 then base else base+dd,none⟩) 0 ((E i).2-off):=hx;refine⟨E,w,Ag.refl _ _,zab _,h.inv,(fun y hy=>by cases hy), ?_⟩
  simp [execOp,resolve,invoke,builtin,hx',Builtin.clear_,run_underlying (aak h1),aal,SV.re]
 |sl i base nn c=>
  have hx':evn n (rF E S.F) x=.slice (some ⟨(E i).1,base,none⟩) nn (c.re E i):=hx;have hv:clrSl S z (abd z) i base nn=some r:=hv;unfold clrSl at hv;rw [aaf]at hv;split at hv
  ·rename_i h0;rw [aad]at h0;have h0:nn=0:=h0;subst h0;cases hv
   refine⟨E,w,Ag.refl _ _,zab _,h.inv,(fun y hy=>by cases hy), ?_⟩
   simp [execOp,resolve,invoke,builtin,hx',Builtin.clear_,run_underlying (aak h1),aal,SV.re]
  ·rename_i h0;rw [aad]at h0;have h0:¬nn=0:=h0;obtain⟨b,h4,hv⟩:=aaa hv;obtain⟨q,h5,hv⟩:=aaa hv;obtain⟨h6,hv⟩:=aab hv;cases hv
   rw [aac,aag,aag]at h6;rw [hbC_ok h5]at h4;have hnews:Builtin.zeroCells zv.cells nn=((lrep z nn).map (SC.re E)).toArray:=by
    have e:=made_eq (E:=E) (z:=z) (k:=nn) h8;rw [<-e];unfold Builtin.zeroCells;rw [h8];simp
   obtain⟨w',h15,h16⟩:=inv_store (C:=C) (off:=base) (vs:=lrep z nn) h.inv h4 (by
    have h6':base+nn*z.length<=q.2.2.length:=h6;rw [lrep_len];omega) (lrep_mem h9 nn)
   refine⟨E,w',Ag.refl _ _,zab _,h16,(fun y hy=>by cases hy), ?_⟩
   obtain⟨nn,rfl⟩:∃j,nn=j+1:=⟨nn-1,by omega⟩
   simp [execOp,resolve,invoke,builtin,hx',Builtin.clear_,run_underlying (aak h1),h7,hnews,h15,aal,SV.re]
 |_=>cases hv
theorem ef_call(h:Sd C m S n w0 E w){c:Call}{r:Option SV×Hs}(hv:wCall C m S ⟨d,.call c,ty,pos,after,gd⟩ c=some r):Efx C S n w0 E w ⟨d,.call c,ty,pos,after,gd⟩ r:=by
 obtain⟨cl,azq,ts⟩:=c;unfold wCall at hv;dsimp only at hv;split at hv
 ·rename_i x h1;obtain rfl:=abi h1;exact ef_sd h hv
 ·rename_i x y pt it h1 h2;obtain rfl:=abi h1;obtain rfl:=abi h2;exact ef_us h hv
 ·rename_i x y t u h1 h2;obtain rfl:=abi h1;obtain rfl:=abi h2;obtain⟨du,h3,hv⟩:=aaa hv;rw [aaf]at hv;split at hv
  ·rename_i h4;exact ef_append h h3 h4 hv
  ·exact ef_appendZ h h3 hv
 ·rename_i x y t u h1 h2;obtain rfl:=abi h1;obtain rfl:=abi h2;exact ef_copy h hv
 ·rename_i x t h1 h2;obtain rfl:=abi h1;obtain rfl:=abi h2;exact ef_clear h hv
 ·exact aaz h (fun v hv=>yd_call h hv) hv
theorem asL_ok{x:SC}{i:Nat}(h:x.asL=some i):∃base n c,x=.sl i base n c:=by
 cases x<;>first|(cases h;exact⟨_,_,_,rfl⟩)|cases h
theorem ef_same(h:Sd C m S n w0 E w){s t:Nat}{x:Operand}{r:Option SV×Hs}(hv:wSame C m S s t x=some r):Efx C S n w0 E w ⟨d,.convert s t x,ty,pos,after,gd⟩ r:=by
 obtain⟨h1,hv1⟩:=aab hv;clear hv;rw [aad]at h1;have h1:s=t:=h1;subst h1;obtain⟨v,h2,hv⟩:=aaa hv1;obtain⟨i,h3,hv⟩:=aaa hv;obtain⟨e,h4,hv⟩:=aaa hv;obtain⟨u,h5,hv⟩:=aaa hv;obtain⟨b,h6,hv⟩:=aaa hv;obtain⟨q,h7,hv⟩:=aaa hv;obtain⟨hx,hok⟩:=aaj h h2;obtain⟨base,nn,c,rfl⟩:=asL_ok h3;obtain⟨tt,md,xs⟩:=q;rw [hbC_ok h7]at h6;have key:∀md md',(md=.ex/\md'=.fb\/md=.bw/\md'=.bw\/md=.fb/\md'=.fb)->S.H.t.get i=some (.cl tt md xs)->Efx C S n w0 E w ⟨d,.convert s s x,ty,pos,after,gd⟩ (some (SV.c (.sl i base nn c)),S.H.upd i (.cl tt md' xs)):=by
  intro md md' hmd h6;obtain⟨cur,t',fz,c1,c2,c3,c4,c5⟩:=h.inv.cells h6;have hx':evn n (rF E S.F) x=.slice (some ⟨(E i).1,base,none⟩) nn (c.re E i):=hx;have hsh:w.shape? (E i).1=some (t',cur.size):=by simp [World.shape?,c1]
  obtain⟨lo,hi⟩:=fz;refine⟨E,w.freeze ⟨(E i).1,cur.size,none⟩ 1,Ag.refl _ _,zab _, ?_,hok, ?_⟩
  ·refine h.inv.upd hok (show(HB.cl tt md' xs).ok S.H.nx from show∀x∈xs,x.ok S.H.nx from h.inv.ok i (.cl tt md xs) h6) ?_;refine h.inv.hp.change i _ _ (h.inv.at h6) rfl rfl rfl (by simp [World.freeze]) (fun j hj hne=> ?_) ?_ (fun b hb=> ?_)
   ·simp only [World.freeze,if_neg (show¬(1=0)by decide),Array.getElem?_modify];rw [if_neg (fun e=>hne (by simp only [resOf,cres];rw [<-e]))]
   ·show∃cur t' fz,_
    refine⟨cur,t',(if lo==hi then(cur.size,cur.size+1)else(min lo cur.size,max hi (cur.size+1))), ?_,(by rcases hmd with⟨rfl,rfl⟩|⟨rfl,rfl⟩|⟨rfl,rfl⟩<;>rcases c2 with c2|c2<;>first|exact .inr c2|exact .inl c2|cases c2),by simpa using c3,by simpa using c4, ?_⟩
    ·show(w.freeze ⟨(E i).1,cur.size,none⟩ 1).heap[(E i).1]? =_
     simp [World.freeze,Array.getElem?_modify,c1]
    ·rw [zaf];rcases hmd with⟨rfl,rfl⟩|⟨rfl,rfl⟩|⟨rfl,rfl⟩
     ·have c5':cur.size=xs.length/\(lo,hi)=(0,0):=c5;have e:=c5'.2;cases e
      exact⟨c5'.1,zab _⟩
     rotate_left
     ·have c5':cur.size=xs.length/\cur.size<=lo:=c5;refine⟨c5'.1, ?_⟩
      split
      ·exact zab _
      ·show cur.size<=min lo cur.size;omega
     ·have c5':xs.length<=(E i).2/\(E i).2<=cur.size/\cur.size<=lo:=c5;refine⟨c5'.1,c5'.2.1, ?_⟩
      split
      ·exact zab _
      ·show cur.size<=min lo cur.size;omega
   ·cases hb
    refine⟨.inl rfl, ?_⟩
    have:=(Array.getElem?_eq_some_iff.1 c1).1
    simpa [World.freeze] using this
  ·simp [execOp,hx',convert,run_underlying (aak h4),run_underlying (isU8_ok h5),markStringish,hsh,aal,SV.re,SC.re]
 cases md with
 |ex=>
  have er:(some (SV.c (.sl i base nn c)),S.H.upd i (.cl tt .fb xs))=r:=Option.some.inj hv;subst er;exact key .ex .fb (.inl ⟨rfl,rfl⟩) h6
 |fb=>
  have er:(some (SV.c (.sl i base nn c)),S.H.upd i (.cl tt .fb xs))=r:=Option.some.inj hv;subst er;exact key .fb .fb (.inr (.inr ⟨rfl,rfl⟩)) h6
 |rw a b=>cases hv
 |bw=>
  have er:(some (SV.c (.sl i base nn c)),S.H.upd i (.cl tt .bw xs))=r:=Option.some.inj hv;subst er;exact key .bw .bw (.inr (.inl ⟨rfl,rfl⟩)) h6
theorem ef_conv(h:Sd C m S n w0 E w){s t:Nat}{x:Operand}{r:Option SV×Hs}(hv:wConv C m S ⟨d,.convert s t x,ty,pos,after,gd⟩ s t x=some r):Efx C S n w0 E w ⟨d,.convert s t x,ty,pos,after,gd⟩ r:=by
 unfold wConv at hv;cases hb:wBytes C m S s t x with
 |none=>
  rw [hb]at hv;cases hb2:wSame C m S s t x with
  |none=>
   have hv:(zaa (wVal S (opConv C m S ⟨d,.convert s t x,ty,pos,after,gd⟩ s t x)) some (wSame C m S s t x):WR')=some r:=hv;rw [hb2]at hv;exact aaz h (fun v hv=>yd_conv h hv) hv
  |some r'=>
   have hv:(zaa (wVal S (opConv C m S ⟨d,.convert s t x,ty,pos,after,gd⟩ s t x)) some (wSame C m S s t x):WR')=some r:=hv;rw [hb2]at hv;obtain rfl:r'=r:=Option.some.inj hv;exact ef_same h hb2
 |some r'=>
  rw [hb]at hv;obtain rfl:r'=r:=Option.some.inj hv;exact ef_bytes h hb
theorem opW_ok(h:Sd C m S n w0 E w){o:Oper}{r:Option SV×Hs}(hv:opW o.op C m S o=some r):Efx C S n w0 E w o r:=by
 obtain⟨d,op,ty,pos,after,gd⟩:=o;cases op with
 |alloc t=>exact ef_alloc h hv
 |box t x=>exact ef_box h hv
 |buildSlice t l ps=>exact ef_buildSlice h hv
 |makeSlice t x y=>exact ef_make h hv
 |store t x y=>exact ef_store h hv
 |makeMap t x=>exact ef_makeMap h hv
 |lookup t x ix bo=>exact ef_lookup h hv
 |mapUpdate t x k y=>exact ef_mapUpd h hv
 |insert t x k y=>
  obtain⟨E',w',h1,h2,h3,h4,h5⟩:=ef_mapUpd (d:=d) (ty:=ty) (pos:=pos) (after:=after) (gd:=gd) h (t:=t) (x:=x) (ix:=k) (y:=y) hv;exact⟨E',w',h1,h2,h3,h4,h5⟩
 |range t x=>exact ef_range h hv
 |next x b=>exact ef_next h hv
 |call c=>exact ef_call h hv
 |convert s t x=>exact ef_conv h hv
 |move x=>exact aaz h (fun v hv=>yd_move h hv) hv
 |assign x=>exact aaz h (fun v hv=>yd_assign h hv) hv
 |pick c a b=>exact aaz h (fun v hv=>yd_pick h hv) hv
 |build t ps=>exact aaz h (fun v hv=>yd_build h hv) hv
 |load t x=>exact aaz h (fun v hv=>yd_load h hv) hv
 |nilCheck x=>exact aaz h (fun v hv=>yd_nil h hv) hv
 |binOp b t x y t'=>exact aaz h (fun v hv=>yd_bin h hv) hv
 |unOp u t x=>exact aaz h (fun v hv=>yd_not h hv) hv
 |makeFunc f a b=>exact aaz h (fun v hv=>yd_func h hv) hv
 |slice t x lo hi mx=>exact aaz h (fun v hv=>yd_slice h hv) hv
 |fieldAddr t x f=>exact aaz h (fun v hv=>yd_fieldAddr h hv) hv
 |field t x f=>exact aaz h (fun v hv=>yd_field h hv) hv
 |indexAddr t x ix=>exact aaz h (fun v hv=>yd_indexAddr h hv) hv
 |index t x ix=>exact aaz h (fun v hv=>yd_index h hv) hv
 |extract x i=>exact aaz h (fun v hv=>yd_extract h hv) hv
 |_=>exact aaz h (fun v hv=>gen_ok h hv) hv
end
open Go.Wk
open List renaming mem_cons_of_mem -> zag, mem_cons_self -> zah
open Nat renaming le_trans -> zap, lt_of_lt_of_le -> zao
open Option renaming rec -> zaa
def ro(E:En)(m:M):Option (Option Nat):=m.m.map fun x=>x.map fun l=>(E l).1
def dl(E:En)(D:Option Nat):List Deferred:=match D with|none=>[]|some r=>[Go.Wk.mark (E r).1]
def aau(E:En)(m:M)(D:Option Nat):Md:=⟨m.n,dl E D,ro E m⟩
def Mok(k:Nat)(m:M):Prop:=∀l,m.m=some (some l)->l<k
def Dok(k:Nat)(D:Option Nat):Prop:=∀r,D=some r->r<k
theorem ro_ext{k:Nat}{E E':En}(h:Ag k E E'){m:M}(hm:Mok k m):ro E' m=ro E m:=by
 unfold ro;obtain⟨n,mm⟩:=m;cases mm with
 |none=>rfl
 |some x=>cases x with
  |none=>rfl
  |some l=>simp only [Option.map_some];rw [h l (hm l rfl)]
theorem dl_ext{k:Nat}{E E':En}(h:Ag k E E'){D:Option Nat}(hd:Dok k D):dl E' D=dl E D:=by
 cases D with
 |none=>rfl
 |some r=>simp only [dl];rw [h r (hd r rfl)]
theorem mdOf_ext{k:Nat}{E E':En}(h:Ag k E E'){m:M}(hm:Mok k m){D:Option Nat}(hd:Dok k D):aau E' m D=aau E m D:=by
 unfold aau;rw [ro_ext h hm,dl_ext h hd]
theorem Mok.up{k k':Nat}(h:k<=k'){m:M}(hm:Mok k m):Mok k' m:=fun l e=>zao (hm l e) h
theorem Dok.up{k k':Nat}(h:k<=k'){D:Option Nat}(hm:Dok k D):Dok k' D:=fun l e=>zao (hm l e) h
def exr:Ex->Exit
 |.nm=>.normal
 |.rt=>.ret
 |.xt id=>.exit id
def Ovl(P:Program)(k:Nat):Prop:=∃fn tS tR e sz,P.funcs[k]? =some fn/\fn.body=none/\Extern.findNext fn=none/\Extern.find fn=some (Extern.SlicesOverlaps.overlaps #[tS,tS] #[tR])/\P.underlying tS=some (.slice e)/\sval P (sizeOf e)=some sz
structure Cok (C:Cx) (Gp:World->Prop):Prop where
 gp:∀{w0 w:World} {L:List Res},Gp w0->Hp w0 [] L w->Gp w
 g:∀{w:World},Gp w->Gok C.G w
 ng : ∀ (f : Nat) (fn : Func), C.P.funcs[f]? = some fn -> (fn.name == "runtime.NumGoroutine") = false
 mo:C.P.follows .mixedOrders=true
 ov:∀k,C.V k=true->Ovl C.P k
structure At (C:Cx) (Gp:World->Prop) (m:M) (S:T) (w0:World) (E:En) (w:World):Prop where
 inv:Inv w0 E S.H w
 fok:Fok S.H.nx S.F
 gp:Gp w0
 m:Mok S.H.nx m
 d:Dok S.H.nx S.D
theorem At.sd{C:Cx}{Gp:World->Prop}(hC:Cok C Gp){m:M}{S:T}{w0:World}{E:En}{w:World}(h:At C Gp m S w0 E w):Sd C m S (aau E m S.D) w0 E w:=⟨rfl,h.inv,h.fok,hC.g h.gp⟩
def aao(C:Cx)(Gp:World->Prop)(call:List SV->Hs->Option (SV×Hs))(k:Nat):Prop:=
 ∀vs H v H',call vs H=some (v,H')->∀w0 E w,Gp w0->Inv w0 E H w->(∀x∈vs,x.ok H.nx)->
  Enters C.P k/\CR C.P k (vs.map (SV.re E)) w fun V w'=>∃E',Ag H.nx E E'/\H.nx<=H'.nx/\Inv w0 E' H' w'/\v.ok H'.nx/\V=v.re E'
def Then(C:Cx)(Gp:World->Prop)(m:M)(S S':T)(w0:World)(E:En)(Q:En->World->Prop):Prop:=
 ∀E' w',Ag S.H.nx E E'->S.H.nx<=S'.H.nx->At C Gp m S' w0 E' w'->Q E' w'
def abg(C:Cx)(Gp:World->Prop)(run:M->T->Option (Ex×T))(c:Code):Prop:=
 ∀m S e S',run m S=some (e,S')->∀w0 E w Q,At C Gp m S w0 E w->NoP Q->
  Then C Gp m S S' w0 E (fun E' w'=>Q (exr e) (fr (aau E' m S'.D) (rF E' S'.F)) w')->Go.Wk.C C.P (aau E m S.D) Q c (rF E S.F) w
structure KsOk (C:Cx) (Gp:World->Prop) (K:Ks):Prop where
 call:∀k,aao C Gp (K.call k) k
 run:∀c,abg C Gp (fun m S=>K.run m c S) c
section
variable {C : Cx} {Gp : World -> Prop} {m : M} {S S' : T} {w0 w : World} {E E' : En} {K : Ks} {H : Hs}
theorem evL_ok{n:Md}(h:Sd C m S n w0 E w):∀{l:List Operand} {vs:List SV},evL m S l=some vs->l.map (evn n (rF E S.F))=vs.map (SV.re E)/\∀x∈vs,x.ok S.H.nx
 |[],vs,hv=>by
  have e:[]=vs:=Option.some.inj hv;subst e;simp
 |x::l,vs,hv=>by
  obtain⟨v,h1,hv⟩:=aaa hv;obtain⟨q,h2,hv⟩:=aaa hv;cases hv
  obtain⟨h3,h4⟩:=abh h h1;obtain⟨h5,h6⟩:=evL_ok h (show evL m S l=some q from h2);refine⟨by simp [h3,h5],fun y hy=> ?_⟩
  rcases List.mem_cons.1 hy with rfl|hy
  ·exact h4
  ·exact h6 y hy
theorem ptrs_ok{k:Nat}(E:En):∀{l:List Nat},(∀i∈l,i<k)->(ptrs l).map (SV.re E)=l.map (fun i=>Value.pointer (some ⟨(E i).1,0,none⟩))/\∀x∈ptrs l,x.ok k
 |[],_=>⟨rfl,fun x hx=>by cases hx⟩
 |i::l,h=>by
  obtain⟨h1,h2⟩:=ptrs_ok (k:=k) E (l:=l) fun j hj=>h j (zag _ hj)
  refine⟨?_,fun x hx=> ?_⟩
  ·show(SV.c (.p i 0)).re E::(ptrs l).map (SV.re E)=_
   rw [h1];rfl
  ·rcases List.mem_cons.1 (show x∈SV.c (.p i 0)::ptrs l from hx)with rfl|hx
   ·exact h i (zah)
   ·exact h2 x hx
theorem at_set(h:At C Gp m S w0 E w){H':Hs}{w':World}(ha:Ag S.H.nx E E')(hn:S.H.nx<=H'.nx)(hi:Inv w0 E' H' w')(d:Nat){v:SV}(hv:v.ok H'.nx):At C Gp m ⟨S.F.set d v,H',S.D⟩ w0 E' w':=
 ⟨hi,(Fok.up hn h.fok).set d hv,h.gp,h.m.up hn,h.d.up hn⟩
theorem at_same(h:At C Gp m S w0 E w){H':Hs}{w':World}(ha:Ag S.H.nx E E')(hn:S.H.nx<=H'.nx)(hi:Inv w0 E' H' w'):At C Gp m ⟨S.F,H',S.D⟩ w0 E' w':=
 ⟨hi,Fok.up hn h.fok,h.gp,h.m.up hn,h.d.up hn⟩
def Wd(C:Cx)(Gp:World->Prop)(m:M)(ops:Array Oper)(S S':T)(w0:World)(E:En)(w:World)(o:Oper):Prop:=
 ∀(rest:List Oper) (Q:Exit->Act->World->Prop),Then C Gp m S S' w0 E (fun E' w'=>Go.Wk.W C.P (aau E m S.D) ops Q rest (rF E' S'.F) w')->Go.Wk.W C.P (aau E m S.D) ops Q (o::rest) (rF E S.F) w
theorem w_run0{P:Program}{n:Md}{ops:Array Oper}{Q:Exit->Act->World->Prop}{F:Nat->Value}{o:Oper}{rest:List Oper}{v:Value}{w':World}(hg:o.guard=none)(hd:o.dst=none)
  (hrun:(execOp (evn n F) o).run P w=.ok (.value v) w') (h:Go.Wk.W P n ops Q rest F w'):Go.Wk.W P n ops Q (o::rest) F w:=by
 obtain⟨k,D,ro⟩:=n;unfold Go.Wk.W WR at h⊢;cases ro with
 |none=>
  refine wpList_plain hg fun K hK=> ?_
  unfold Oper.wp;rw [aar,hrun,Oper.upon_value,hd];exact hK _ _ h
 |some r=>
  refine wpListIn_plain hg fun K hK=>⟨abp, ?_⟩
  rw [aar,abm _ hrun (fun d e=>by cases e),hrun,Oper.uponIn_value,hd];exact hK _ _ h
theorem opO_wd(hC:Cok C Gp)(h:At C Gp m S w0 E w){ops:Array Oper}{o:Oper}(hg:o.guard=none)(hv:opO C m S o=some S'):Wd C Gp m ops S S' w0 E w o:=by
 intro rest Q hk;obtain⟨r,h1,hv⟩:=aaa hv;obtain⟨E',w',g1,g2,g3,g4,g5⟩:=opW_ok (h.sd hC) h1;obtain⟨r1,H'⟩:=r;cases r1 with
 |none=>
  obtain⟨h2,hv⟩:=aab (show bi o.dst.isNone (some (⟨S.F,H',S.D⟩:T)) none=some S' from hv);cases hv
  have hd:o.dst=none:=by simpa using h2
  refine w_skip hg hd g5 ?_;have hq:Go.Wk.W C.P (aau E m S.D) ops Q rest (rF E' S.F) w':=hk E' w' g1 g2 (at_same h g1 g2 g3);rw [rF_ext g1 h.fok]at hq;exact hq
 |some v=>
  cases h2:o.dst with
  |none=>
   have hv:(zaa (motive:=fun _=>Option T) (some ⟨S.F,H',S.D⟩) (fun d=>some ⟨S.F.set d v,H',S.D⟩) o.dst)=some S':=hv;rw [h2]at hv;obtain rfl:(⟨S.F,H',S.D⟩:T)=S':=Option.some.inj hv;refine w_run0 hg h2 g5 ?_;have hq:Go.Wk.W C.P (aau E m S.D) ops Q rest (rF E' S.F) w':=hk E' w' g1 g2 (at_same h g1 g2 g3);rw [rF_ext g1 h.fok]at hq;exact hq
  |some d=>
  have hv:(zaa (motive:=fun _=>Option T) (some ⟨S.F,H',S.D⟩) (fun d=>some ⟨S.F.set d v,H',S.D⟩) o.dst)=some S':=hv;rw [h2]at hv;obtain rfl:(⟨S.F.set d v,H',S.D⟩:T)=S':=Option.some.inj hv;refine abt hg h2 g5 ?_;have hq:Go.Wk.W C.P (aau E m S.D) ops Q rest (rF E' (S.F.set d v)) w':=hk E' w' g1 g2 (at_set h g1 g2 g3 d g4);rw [rF_set,rF_ext g1 h.fok]at hq;exact hq
theorem gok_call{f:Operand}{args:Array Operand}{o:Oper}(hc:isCall o.op=some (f,args)):∃ats,o.op=.call ⟨.value f,args,ats⟩:=by
 obtain⟨d,op,ty,pos,after,gd⟩:=o;cases op with
 |call c=>
  obtain⟨cl,azq,ts⟩:=c;cases cl with
  |value g=>cases hc;exact⟨ts,rfl⟩
  |_=>cases hc
 |_=>cases hc
theorem hbL_ok{b:HB}{q:Bool×Lq}(h:b.asL=some q):b=.lp q.1 q.2.1 q.2.2.1 q.2.2.2.1 q.2.2.2.2.1 q.2.2.2.2.2.1 q.2.2.2.2.2.2:=by
 cases b<;>first|(cases h;rfl)|cases h
theorem lpAt_ok{H:Hs}{i:Nat}{busy:Bool}{q:Lq}(h:lpAt H i busy=some q):H.t.get i=some (.lp busy q.1 q.2.1 q.2.2.1 q.2.2.2.1 q.2.2.2.2.1 q.2.2.2.2.2):=by
 obtain⟨b,h1,h⟩:=aaa h;obtain⟨p,h2,h⟩:=aaa h;obtain⟨h3,h⟩:=aab h;cases h
 rw [hbL_ok h2]at h1;have hb:p.1=busy:=by
  rw [aaf,inot_eq]at h3;cases busy<;>cases hp:p.1<;>simp [hp]at h3⊢
 rw [hb]at h1;exact h1
theorem updP_ok{k:Nat}:∀{ps:List Nat} {F F1:Tr SV} {vs:List SV},updP F ps vs=some F1->Fok k F->(∀x∈vs,x.ok k)->ps.length=vs.length/\rF E F1=updL (rF E F) ps (vs.map (SV.re E))/\Fok k F1
 |[],F,F1,vs,h,hF,hv=>by
  obtain⟨h1,h⟩:=aab (show bi vs.isEmpty (some F) none=some F1 from h);cases h
  cases vs with
  |nil=>exact⟨rfl,rfl,hF⟩
  |cons v vs=>cases h1
 |p::ps,F,F1,[],h,hF,hv=>by cases h
 |p::ps,F,F1,v::vs,h,hF,hv=>by
  obtain⟨h1,h2,h3⟩:=updP_ok (show updP (F.set p v) ps vs=some F1 from h) (hF.set p (hv v zah)) fun x hx=>hv x (zag _ hx)
  refine⟨by simp [h1], ?_,h3⟩
  rw [h2,rF_set];rfl
theorem lp_get(h:Inv w0 E H w){i:Nat}{busy:Bool}{q:Lq}(hq:lpAt H i busy=some q):i<H.nx/\Fok H.nx q.2.2.2.2.2/\∃rc:Loop,rc.assign=q.2.2.2.1/\rc.body=q.2.2.2.2.1/\rc.params=q.2.2.1.toArray/\rc.tmps=(fr ⟨q.2.1,[],some none⟩ (rF E q.2.2.2.2.2)).tmps/\
  (match busy with
  |false=>Hp w0 [] ((aam E H).set i (lrec (E i).1 q.1 rc)) w
  |true=>Hp w0 [] ((aam E H).set i (lbusy (E i).1 rc)) w):=by
 have h1:=lpAt_ok hq;obtain⟨rc,r1,r2,r3,r4,r5⟩:=(h.hp.res _ (List.mem_of_getElem? (h.at h1))).1;refine⟨h.lt i _ h1,h.ok i _ h1,rc,r1,r2,r3,r4, ?_⟩
 cases busy with
 |false=>exact hp_weak h.hp (h.at h1) rfl r5
 |true=>exact hp_weak h.hp (h.at h1) rfl r5
def lres:Bool->Nat->Nat->Loop->Res
 |false,l,j,rc=>lrec l j rc
 |true,l,_,rc=>lbusy l rc
theorem lp_put(h:Inv w0 E H w){i:Nat}{busy b':Bool}{j:Nat}{q:Lq}(hq:lpAt H i busy=some q){rc:Loop}{w':World}(r1:rc.assign=q.2.2.2.1)(r2:rc.body=q.2.2.2.2.1)(r3:rc.params=q.2.2.1.toArray)(r4:rc.tmps=(fr ⟨q.2.1,[],some none⟩ (rF E q.2.2.2.2.2)).tmps)
  {L:List Res} (hL:L=(aam E H).set i (lres b' (E i).1 j rc)) (hp:Hp w0 [] L w'):Inv w0 E (lpPut q b' j H i) w':=by
 have h1:=lpAt_ok hq;have hi:=h.lt i _ h1;refine h.upd hi (show Fok H.nx q.2.2.2.2.2 from h.ok i _ h1) ?_;subst hL;have hlen:i<(aam E H).length:=by rw [aat];exact hi
 have hk:=List.getElem?_set_self (a:=lres b' (E i).1 j rc) hlen
 have:=hp_weak (r':=resOf E i (.lp b' j q.2.1 q.2.2.1 q.2.2.2.1 q.2.2.2.2.1 q.2.2.2.2.2)) hp hk (by cases b'<;>rfl) (by
  have hr:=(hp.res _ (List.mem_of_getElem? hk)).1;cases b' with
  |false=>exact⟨rc,r1,r2,r3,r4,hr⟩
  |true=>exact⟨rc,r1,r2,r3,r4,hr⟩)
 rw [List.set_set]at this;exact this
def Post(H H':Hs)(w0:World)(E:En)(v:SV)(V:Value)(w':World):Prop:=∃E',Ag H.nx E E'/\H.nx<=H'.nx/\Inv w0 E' H' w'/\v.ok H'.nx/\V=v.re E'
theorem np_asg{P:Program}{l:Nat}{bd:Code}{R:Value->World->Prop}:NoP (AsgQ P l bd R):=by
 intro c a w h;unfold AsgQ at h;exact h
theorem np_rnd{P:Program}{l:Nat}{R:Value->World->Prop}:NoP (RndQ P l R):=by
 intro c a w h;unfold RndQ at h;exact h
theorem yield_ok{run:Ev}(hr:∀c,abg C Gp (fun m S=>run m c S) c){i:Nat}{vs:List SV}{H H':Hs}{v:SV}(hy:yieldE run i vs H=some (v,H'))(hg:Gp w0)(h:Inv w0 E H w)(hvs:∀x∈vs,x.ok H.nx):
  YR C.P (E i).1 (vs.map (SV.re E)) w (Post H H' w0 E v):=by
 obtain⟨q,h1,hy⟩:=aaa hy;obtain⟨h2,hy⟩:=aab hy;obtain⟨F1,h3,hy⟩:=aaa hy;obtain⟨⟨x,S1⟩,h4,hy⟩:=aaa hy;rw [aad]at h2;obtain⟨hi,hF,rc,r1,r2,r3,r4,r5⟩:=lp_get h h1;rw [h2]at r5;obtain⟨u1,u2,u3⟩:=updP_ok (E:=E) h3 hF hvs;have hlen:i<(aam E H).length:=by rw [aat];exact hi
 refine yr_intro r5 i (List.getElem?_set_self hlen) r1 r2 r3 r4 (by rw [u1];simp) ?_;rw [<-u2];cases x with
 |rt=>cases hy
 |xt id=>cases hy
 |nm=>
 have hy2:yield2 run i q.2.1 q.2.2.2.2.1 S1=some (v,H'):=hy;refine hr q.2.2.2.1 ⟨q.2.1,some (some i)⟩ ⟨F1,H,none⟩ .nm S1 h4 w0 E w _ ⟨h,u3,hg,fun l e=>(by cases e;exact hi),fun r e=>by cases e⟩ np_asg ?_;intro E1 w1 a1 n1 at1;obtain⟨q2,h5,hy2⟩:=aaa hy2;obtain⟨h6,hy2⟩:=aab hy2;obtain⟨h7,hy2⟩:=aab hy2;obtain⟨⟨x2,S2⟩,h8,hy3⟩:=aaa hy2;rw [aad]at h6;have hD:S1.D=none:=by simpa using h7
 obtain⟨hi1,hF1,rc1,s1,s2,s3,s4,s5⟩:=lp_get at1.inv h5;rw [h6]at s5;have hlen1:i<(aam E1 S1.H).length:=by rw [aat];exact hi1
 have ei:(E1 i).1=(E i).1:=by rw [a1 i hi]
 rw [hD];show AsgQ C.P (E i).1 q.2.2.2.2.1 _ .normal (fr ⟨q.2.1,[],some (some (E1 i).1)⟩ (rF E1 S1.F)) w1;rw [ei];rw [ei]at s5;refine asg_next s5 i (List.getElem?_set_self hlen1) ?_;intro w2 hp2;rw [List.set_set]at hp2;have inv2:Inv w0 E1 (lpPut q2 true 0 S1.H i) w2:=lp_put at1.inv h5 (b':=true) (j:=0) s1 s2 s3 s4 (by rw [ei];rfl) hp2;have key:=hr q.2.2.2.2.1 ⟨q.2.1,some (some i)⟩ ⟨S1.F,lpPut q2 true 0 S1.H i,none⟩ x2 S2 h8 w0 E1 w2 (RndQ C.P (E i).1 (Post H H' w0 E v)) ⟨inv2,at1.fok,hg,fun l e=>(by cases e;exact hi1),fun r e=>by cases e⟩ np_rnd ?_
 ·have e1:aau E1 ⟨q.2.1,some (some i)⟩ none=⟨q.2.1,[],some (some (E i).1)⟩:=by rw [<-ei];rfl
  rw [e1]at key;exact key
 intro E2 w3 a2 n2 at2;obtain⟨q3,h9,hy3⟩:=aaa hy3;obtain⟨h10,hy3⟩:=aab hy3;cases hy3
 have hD2:S2.D=none:=by simpa using h10
 obtain⟨hi2,hF2,rc2,t1,t2,t3,t4,t5⟩:=lp_get at2.inv h9;have hlen2:i<(aam E2 S2.H).length:=by rw [aat];exact hi2
 have ei2:(E2 i).1=(E i).1:=by rw [a2 i hi1,ei]
 have hag:Ag H.nx E E2:=a1.trans a2 n1;have hnx:H.nx<=S2.H.nx:=zap n1 n2;rw [hD2];show RndQ C.P (E i).1 _ (exr x2) (fr ⟨q.2.1,[],some (some (E2 i).1)⟩ (rF E2 S2.F)) w3;rw [ei2];simp only at t5;rw [ei2]at t5;have fin:∀(j:Nat) (w':World),Hp w0 [] (((aam E2 S2.H).set i (lbusy (E i).1 rc2)).set i (lrec (E i).1 j rc2)) w'->Inv w0 E2 (lpPut q3 false j S2.H i) w':=by
  intro j w' hp;rw [List.set_set]at hp;exact lp_put at2.inv h9 (b':=false) (j:=j) t1 t2 t3 t4 (by rw [ei2];rfl) hp
 cases x2 with
 |nm=>exact rnd_normal t5 i (List.getElem?_set_self hlen2) fun w' hp=>⟨E2,hag,hnx,fin 0 w' hp,trivial,rfl⟩
 |rt=>exact rnd_ret t5 i (List.getElem?_set_self hlen2) fun w' hp=>⟨E2,hag,hnx,fin 1 w' hp,trivial,rfl⟩
 |xt id=>exact rnd_exit t5 i (List.getElem?_set_self hlen2) fun w' hp=>⟨E2,hag,hnx,fin (id+2) w' hp,trivial,rfl⟩
end
open Go.Wk
open List renaming map_append -> zav
open Nat renaming beq -> zac, ble -> zad, blt -> zak, le_refl -> zab, le_trans -> zap
open Option renaming rec -> zaa
section
variable {C : Cx} {Gp : World -> Prop} {m : M} {S S' : T} {w0 w : World} {E E' : En} {K : Ks} {H : Hs}
def updO(F:Nat->Value):Option Nat->Value->Nat->Value
 |none,_=>F
 |some d,V=>Wk.upd F d V
theorem dset_rF(E:En)(F:Tr SV)(d:Option Nat)(v:SV):rF E (dset F d v)=updO (rF E F) d (v.re E):=by
 cases d with
 |none=>rfl
 |some d=>exact rF_set E F d v
theorem at_dset(h:At C Gp m S w0 E w){H':Hs}{w':World}(ha:Ag S.H.nx E E')(hn:S.H.nx<=H'.nx)(hi:Inv w0 E' H' w')(d:Option Nat){v:SV}(hv:v.ok H'.nx):At C Gp m ⟨dset S.F d v,H',S.D⟩ w0 E' w':=by
 cases d with
 |none=>exact at_same h ha hn hi
 |some d=>exact at_set h ha hn hi d hv
theorem call_wd(hC:Cok C Gp)(hK:KsOk C Gp K)(h:At C Gp m S w0 E w){ops:Array Oper}{o:Oper}{f:Operand}{args:Array Operand}(hg:o.guard=none)(hc:isCall o.op=some (f,args))
  {v:SV} {H':Hs} (hv:callE K m S f args o.dst.isSome=some (v,H')):Wd C Gp m ops S ⟨dset S.F o.dst v,H',S.D⟩ w0 E w o:=by
 intro rest Q hk;obtain⟨ats,hop⟩:=gok_call hc;obtain⟨d,op,ty,pos,after,gd⟩:=o;simp only at hop hg;subst hop;subst hg;obtain⟨vs,h1,hv⟩:=aaa hv;obtain⟨g,h2,hv⟩:=aaa hv;obtain⟨h3,h4⟩:=evL_ok (h.sd hC) h1;obtain⟨h5,h6⟩:=aaj (h.sd hC) h2;have hargs:args.map (evn (aau E m S.D) (rF E S.F))=(vs.map (SV.re E)).toArray:=by
  rw [<-h3];exact Array.toList_inj.1 (by rw [Array.toList_map])
 have go:∀(V:Value) (w':World),Post S.H H' w0 E v V w'->Go.Wk.W C.P (aau E m S.D) ops Q rest (updO (rF E S.F) d V) w':=by
  rintro V w' ⟨E',g1,g2,g3,g4,rfl⟩
  have hq:Go.Wk.W C.P (aau E m S.D) ops Q rest (rF E' (dset S.F d v)) w':=hk E' w' g1 g2 (at_dset h g1 g2 g3 d g4);rw [dset_rF,rF_ext g1 h.fok]at hq;exact hq
 cases g with
 |fn k cs=>
  have hv':K.call k (lapp vs (ptrs cs)) S.H=some (v,H'):=hv;obtain⟨p1,p2⟩:=ptrs_ok (k:=S.H.nx) E (l:=cs) h6;rw [abf]at hv';obtain⟨hE,hcr⟩:=hK.call k _ _ _ _ hv' w0 E w h.gp h.inv (fun x hx=>by
   rcases List.mem_append.1 hx with hx|hx
   ·exact h4 x hx
   ·exact p2 x hx)
  have ha: #[]++args.map (evn (aau E m S.D) (rF E S.F))++(cs.map fun i=>Value.pointer (some ⟨(E i).1,0,none⟩)).toArray=((vs++ptrs cs).map (SV.re E)).toArray:=by
   rw [hargs,zav,p1];simp
  cases d with
  |none=>exact w_call0 k _ _ _ hE h5 ha hcr fun V w' hp=>go V w' hp
  |some d=>exact w_call k _ _ _ hE h5 ha hcr fun V w' hp=>go V w' hp
 |y i=>
  obtain⟨hds,hv'⟩:=aab (show bi d.isSome (bi m.m.isSome (yieldE K.run i vs S.H) none) none=some (v,H')from hv);obtain⟨h7,hv'⟩:=aab hv';have hy:=yield_ok hK.run hv' h.gp h.inv h4;obtain⟨mn,mm⟩:=m;cases mm with
  |none=>cases h7
  |some mm=>
   have ha: #[]++args.map (evn (aau E ⟨mn,some mm⟩ S.D) (rF E S.F))++ #[]=(vs.map (SV.re E)).toArray:=by rw [hargs];simp
   cases d with
   |some d=>exact w_yield (E i).1 _ _ h5 ha hy fun V w' hp=>go V w' hp
   |none=>cases hds
 |_=>cases hv
theorem asF_ok{x:SC}{k:Nat}(h:x.asF=some k):x=.fn k []:=by
 cases x with
 |fn f l=>
  obtain⟨h1,h2⟩:=aab (show bi l.isEmpty (some f) none=some k from h);cases h2
  cases l with
  |nil=>rfl
  |cons a l=>cases h1
 |_=>cases h
theorem owns_ne(h:Inv w0 E H w){i j:Nat}{b b':HB}(hi:H.t.get i=some b)(hj:H.t.get j=some b')(hij:i≠j){x:Nat}(h1:(resOf E i b).own=some x):(resOf E j b').own≠some x:=by
 have hp:=h.hp.sep;have e1:=h.at hi;have e2:=h.at hj;have l1:=(List.getElem?_eq_some_iff.1 e1).1;have l2:=(List.getElem?_eq_some_iff.1 e2).1;rw [List.pairwise_iff_getElem]at hp;rw [List.getElem?_eq_getElem l1]at e1;rw [List.getElem?_eq_getElem l2]at e2;have e1:=Option.some.inj e1;have e2:=Option.some.inj e2;rcases Nat.lt_or_gt_of_ne hij with hlt|hlt
 ·have:=hp i j l1 l2 hlt x
  rw [e1,e2]at this;exact this h1
 ·have:=hp j i l2 l1 hlt x
  rw [e1,e2]at this;exact fun h2=>this h2 h1
theorem ovl_run(hC:Cok C Gp)(h:At C Gp m S w0 E w){o:Oper}{f:Operand}{args:Array Operand}{v:SV}(hc:isCall o.op=some (f,args))(hv:ovlE C m S f args=some v):
  (execOp (evn (aau E m S.D) (rF E S.F)) o).run C.P w=.ok (.value (v.re E)) w/\v.ok S.H.nx:=by
 have hsd:=h.sd hC;obtain⟨ats,hop⟩:=gok_call hc;unfold ovlE at hv;split at hv
 ·rename_i x y hxy;obtain rfl:=abi hxy;obtain⟨g,h1,hv⟩:=aaa hv;obtain⟨k,h2,hv⟩:=aaa hv;obtain⟨h3,hv⟩:=aab hv;obtain⟨a,h4,hv⟩:=aaa hv;obtain⟨b,h5,hw⟩:=aaa hv;clear hv;obtain rfl:=asF_ok h2;have hf:evn (aau E m S.D) (rF E S.F) f=.func (.func k) #[] #[]:=(aaj hsd h1).1;have hx:=(aaj hsd h4).1;have hy:=(aaj hsd h5).1;obtain⟨fn,tS,tR,e,sz,f1,f2,f3,f4,f5,f6⟩:=hC.ov k h3;have hng:=hC.ng k fn f1;obtain⟨i,h6,hw1⟩:=aaa hw;clear hw;obtain⟨base,nn,c,rfl⟩:=asL_ok h6;have hz:∀w,(sizeOf e).run C.P w=.ok sz w:=fun w=>abv f6 w
  have key:(Extern.SlicesOverlaps.overlaps #[tS,tS] #[tR] #[(SC.sl i base nn c).re E,b.re E]).run C.P w=.ok (.bool false) w->v=.c (.b false)->(execOp (evn (aau E m S.D) (rF E S.F)) o).run C.P w=.ok (.value (v.re E)) w/\v.ok S.H.nx:=by
   rintro hr rfl
   refine⟨?_,trivial⟩
   unfold execOp;rw [hop];have hrf:∀t,(resolve (evn (aau E m S.D) (rF E S.F)) ⟨.value f, #[x,y],ats⟩ t)=Deferred.ofValue (.func (.func k) #[] #[]) #[(SC.sl i base nn c).re E,b.re E]:=by
    intro t;simp [resolve,hf,hx,hy]
   simp only [hrf];have hng' : ¬ fn.name = "runtime.NumGoroutine" := by simpa using hng
   generalize(SC.sl i base nn c).re E=X at hr
   generalize b.re E=Y at hr;have e1:SV.re E (.c (.b false))=.bool false:=rfl;simp [Deferred.ofValue,invoke,callFunc,f1,hng',f2,f3,f4,hr,e1]
  cases hb:b.asL with
  |none=>
   rw [hb]at hw1;obtain⟨h7,hw1⟩:=aab (show bi b.isZ (some (SV.c (.b false))) none=some v from hw1);cases hw1
   cases b with
   |z j base' dd off=>
    refine key ?_ rfl
    show(Extern.SlicesOverlaps.overlaps #[tS,tS] #[tR] #[.slice (some ⟨(E i).1,base,none⟩) nn (c.re E i),.slice (some ⟨(E j).1,if(E j).2-off=0 then base' else base'+dd,none⟩) 0 ((E j).2-off)]).run C.P w=.ok (.bool false) w
    generalize(⟨(E i).1,base,none⟩:Addr)=a1
    generalize(⟨(E j).1,if(E j).2-off=0 then base' else base'+dd,none⟩:Addr)=b1
    change Sem.run C.P (α:=Value) (do
     let some t := (#[tS, tS] : Array TypeId)[0]? | stuck "slices.overlaps: no parameter types"
     let .slice elem <- underlying t | stuck "slices.overlaps: slice type expected"
     let size<-sizeOf elem
     match(some a1:Option Addr),(some b1:Option Addr)with
     |some a,some b=>
      if nn=0\/0=0\/size=0 then pure (Value.bool false)
      else if a.block !=b.block&&(<-frozen a)&&(<-frozen b)then unsupported .addressObserved
      else do
       if a.block !=b.block then do
        noView a;noView b
        if <- mayBeOne a b then return Value.bool ((<- choose (.extern "sameAddr.stringBytes" 2)) == 1)
       pure (Value.bool (a.block==b.block&&a.off<b.off+0*size&&b.off<a.off+nn*size))
     |_,_=>pure (Value.bool false)) w=_
    simp [run_underlying f5,hz]
   |_=>cases h7
  |some j=>
   rw [hb]at hw1;obtain⟨base',n',c',rfl⟩:=asL_ok hb;have hw1:bi (zac i j) none (ob (S.H.t.get i) fun p=>ob p.asC fun q=>bi (Mo.rec true (fun _ _=>false) false false q.2.1) (ob (S.H.t.get j) fun p'=>ob p'.asC fun q'=>bi (zad 1 (abd q'.2.2)) (some (SV.c (.b false))) none) none)=some v:=hw1;rw [aaf]at hw1;split at hw1
   ·cases hw1
   rename_i hij;rw [aad]at hij;obtain⟨p,h8,hw1⟩:=aaa hw1;obtain⟨q,h9,hw1⟩:=aaa hw1;obtain⟨h10,hw1⟩:=aab hw1;obtain⟨p',h11,hw1⟩:=aaa hw1;obtain⟨q',h12,hw1⟩:=aaa hw1;obtain⟨h13,hw1⟩:=aab hw1;have hfin:v=.c (.b false):=(Option.some.inj hw1).symm;rw [aac,aag]at h13;obtain⟨t1,md,xs⟩:=q;obtain⟨t2,md2,ys⟩:=q';rw [hbC_ok h9]at h8;rw [hbC_ok h12]at h11;cases md with
   |ex=>
    obtain⟨cur,ta,fz,c1,c2,c3,c4,c5⟩:=h.inv.cells h8;obtain⟨cur2,tb,fz2,d1,d2,d3,d4,d5⟩:=h.inv.cells h11;have hne:(E i).1≠(E j).1:=fun e=>owns_ne h.inv h8 h11 hij (x:=(E i).1) rfl (by show some (E j).1=_;rw [e])
    have hfz:fz=(0,0):=c5.2;subst hfz;refine key ?_ hfin;have h13':1<=ys.length:=h13;have d3':ys.length<=cur2.size:=d3;exact Lib.run_overlaps_apart w tS tR e f5 sz hz ⟨(E i).1,base,none⟩ ⟨(E j).1,base',none⟩ nn (c.re E i) n' (c'.re E j) hne ta tb cur.size cur2.size (by simp [World.shape?,c1]) (by simp [World.shape?,d1]) (by omega) (by simp [World.frozen?,c1]) (by simp [World.frozen?,c1])
   |_=>cases h10
 ·cases hv
theorem op1_wd(hC:Cok C Gp)(hK:KsOk C Gp K)(h:At C Gp m S w0 E w){ops:Array Oper}{o:Oper}(hg:o.guard=none)(hv:op1 C K m S o=some S'):Wd C Gp m ops S S' w0 E w o:=by
 unfold op1 at hv;cases hc:isCall o.op with
 |none=>rw [hc]at hv;exact opO_wd hC h hg hv
 |some c=>
  rw [hc]at hv;cases ho:ovlE C m S c.1 c.2 with
  |none=>
   have hv:(zaa (ob (callE K m S c.1 c.2 o.dst.isSome) fun r=>some (⟨dset S.F o.dst r.1,r.2,S.D⟩:T)) (fun v=>ob o.dst fun d=>some ⟨S.F.set d v,S.H,S.D⟩) (ovlE C m S c.1 c.2):Option T)=some S':=hv;rw [ho]at hv;obtain⟨⟨v,H'⟩,h1,hv⟩:=aaa hv;cases hv
   exact call_wd hC hK h hg hc h1
  |some v=>
   have hv:(zaa (ob (callE K m S c.1 c.2 o.dst.isSome) fun r=>some (⟨dset S.F o.dst r.1,r.2,S.D⟩:T)) (fun v=>ob o.dst fun d=>some ⟨S.F.set d v,S.H,S.D⟩) (ovlE C m S c.1 c.2):Option T)=some S':=hv;rw [ho]at hv;obtain⟨d,h2,hv⟩:=aaa hv;cases hv
   intro rest Q hk;obtain⟨f,args⟩:=c;obtain⟨g5,g6⟩:=ovl_run hC h hc ho;refine abt hg h2 g5 ?_;have hq:Go.Wk.W C.P (aau E m S.D) ops Q rest (rF E (S.F.set d v)) w:=hk E w (Ag.refl _ _) (zab _) (at_set h (Ag.refl _ _) (zab _) h.inv d g6);rw [rF_set]at hq;exact hq
theorem op1_nog(o:Oper)(g:Option (Nat×Bool)):op1 C K m S {o with guard:=g}=op1 C K m S o:=by
 obtain⟨d,op,ty,pos,after,gd⟩:=o;unfold op1 opO;cases op<;>rfl
theorem gval_ok{v:SV}{b r:Bool}(h:gval v b=some r)(E:En):(v.re E=.bool b/\r=true)\/(v.re E=.bool (!b)/\r=false)\/(v=.u/\r=false):=by
 cases v with
 |c x=>
  obtain⟨t,h1,h⟩:=aaa (show(ob x.asB fun t=>some (bi t b (inot b)))=some r from h);cases h
  obtain rfl:=asB_ok h1;cases t<;>cases b<;>simp [bi,inot,SV.re,SC.re]
 |u=>cases h;exact .inr (.inr ⟨rfl,rfl⟩)
 |a l=>cases h
 |t l=>cases h
theorem opG_wd(hC:Cok C Gp)(hK:KsOk C Gp K)(h:At C Gp m S w0 E w){ops:Array Oper}{o:Oper}(hv:opG C K m ops S o=some S'):Wd C Gp m ops S S' w0 E w o:=by
 obtain⟨dst,op,ty,pos,after,gd⟩:=o;unfold opG at hv;cases gd with
 |none=>exact op1_wd hC hK h rfl hv
 |some q=>
  obtain⟨g,b⟩:=q;obtain⟨dg,h1,hv⟩:=aaa hv;obtain⟨d,h2,hv⟩:=aaa hv;obtain⟨h3,hv⟩:=aab hv;obtain⟨r,h4,hv⟩:=aaa hv;have h2':dst=some d:=h2;subst h2';have e1:oget (S.F.get dg)=tv S.F dg:=tv_rec S.F dg;rw [e1]at h4;have hblt:zak dg (aau E m S.D).n=true:=h3;intro rest Q hk;rcases gval_ok h4 E with⟨hb,rfl⟩|⟨hb,rfl⟩|⟨hb,rfl⟩
  ·refine w_gyes dg h1 hblt hb ?_;have hv':op1 C K m S (⟨some d,op,ty,pos,after,none⟩:Oper)=some S':=by
    rw [<-op1_nog _ (some (g,b))];exact hv
   exact op1_wd hC hK h rfl hv' rest Q hk
  ·cases hv
   refine w_gno dg h1 hblt hb ?_;have hq:Go.Wk.W C.P (aau E m S.D) ops Q rest (rF E (S.F.set d .u)) w:=hk E w (Ag.refl _ _) (zab _) (at_set h (Ag.refl _ _) (zab _) h.inv d (v:=.u) trivial);rw [rF_set]at hq;exact hq
  ·cases hv
   have hu:rF E S.F dg=undef:=by
    show(tv S.F dg).re E=_
    rw [hb];rfl
   refine w_gun dg h1 hblt hu ?_;have hq:Go.Wk.W C.P (aau E m S.D) ops Q rest (rF E (S.F.set d .u)) w:=hk E w (Ag.refl _ _) (zab _) (at_set h (Ag.refl _ _) (zab _) h.inv d (v:=.u) trivial);rw [rF_set]at hq;exact hq
theorem opG_D{ops:Array Oper}{o:Oper}(hv:opG C K m ops S o=some S'):S'.D=S.D:=by
 have h1:∀S',op1 C K m S o=some S'->S'.D=S.D:=by
  intro S' hv;unfold op1 at hv;cases hc:isCall o.op with
  |none=>
   rw [hc]at hv;obtain⟨r,_,hv⟩:=aaa (show opO C m S o=some S' from hv);obtain⟨r1,H'⟩:=r;cases r1 with
   |none=>
    obtain⟨_,hv⟩:=aab (show bi o.dst.isNone (some (⟨S.F,H',S.D⟩:T)) none=some S' from hv);cases hv;rfl
   |some v=>
    have hv2:(zaa (motive:=fun _=>Option T) (some ⟨S.F,H',S.D⟩) (fun d=>some ⟨S.F.set d v,H',S.D⟩) o.dst)=some S':=hv;clear hv;cases hd:o.dst with
    |none=>rw [hd]at hv2;rw [<-Option.some.inj hv2]
    |some d=>rw [hd]at hv2;rw [<-Option.some.inj hv2]
  |some c=>
   rw [hc]at hv;have hv2:(zaa (ob (callE K m S c.1 c.2 o.dst.isSome) fun r=>some (⟨dset S.F o.dst r.1,r.2,S.D⟩:T)) (fun v=>ob o.dst fun d=>some ⟨S.F.set d v,S.H,S.D⟩) (ovlE C m S c.1 c.2):Option T)=some S':=hv;clear hv;cases ho:ovlE C m S c.1 c.2 with
   |none=>
    rw [ho]at hv2;obtain⟨_,_,hv⟩:=aaa hv2;cases hv;rfl
   |some v=>
    rw [ho]at hv2;obtain⟨_,_,hv⟩:=aaa hv2;cases hv;rfl
 unfold opG at hv;cases hg:o.guard with
 |none=>rw [hg]at hv;exact h1 S' hv
 |some q=>
  rw [hg]at hv;obtain⟨_,_,hv⟩:=aaa hv;obtain⟨_,_,hv⟩:=aaa hv;obtain⟨_,hv⟩:=aab hv;obtain⟨r,_,hv⟩:=aaa hv;cases r with
  |true=>exact h1 S' hv
  |false=>cases hv;rfl
theorem opsE_ok(hC:Cok C Gp)(hK:KsOk C Gp K){ops:Array Oper}:∀(l:List Oper) (S S':T) (E:En) (w:World),At C Gp m S w0 E w->opsE C K m ops l S=some S'->∀Q:Exit->Act->World->Prop,
  Then C Gp m S S' w0 E (fun E' w'=>Q .normal (fr (aau E' m S'.D) (rF E' S'.F)) w')->Go.Wk.W C.P (aau E m S.D) ops Q l (rF E S.F) w
 |[],S,S',E,w,h,hv,Q,hk=>by
  have e:S=S':=Option.some.inj hv;subst e;exact w_nil (hk E w (Ag.refl _ _) (zab _) h)
 |o::l,S,S',E,w,h,hv,Q,hk=>by
  obtain⟨S1,h1,hv⟩:=aaa (show ob (opG C K m ops S o) (opsE C K m ops l)=some S' from hv);refine opG_wd hC hK h h1 l Q ?_;intro E1 w1 a1 n1 at1;have hd:=opG_D h1
  have:=opsE_ok hC hK l S1 S' E1 w1 at1 hv Q (fun E2 w2 a2 n2 at2=>hk E2 w2 (a1.trans a2 n1) (zap n1 n2) at2)
  rw [hd,mdOf_ext a1 h.m h.d]at this;exact this
theorem np_seqA{P:Program}{n:Md}{y:Code}{Q:Exit->Act->World->Prop}(h:NoP Q):NoP (SeqQ P n y Q):=by unfold SeqQ;exact h
theorem onX_some{r:RT}{nm rt:T->RT}{xt:Nat->T->RT}{v:Ex×T}(h:onX r nm rt xt=some v):∃e S,r=some (e,S)/\((e=.nm/\nm S=some v)\/(e=.rt/\rt S=some v)\/∃id,e=.xt id/\xt id S=some v):=by
 cases r with
 |none=>cases h
 |some p=>
  obtain⟨e,S⟩:=p;refine⟨e,S,rfl, ?_⟩
  cases e with
  |nm=>exact .inl ⟨rfl,h⟩
  |rt=>exact .inr (.inl ⟨rfl,h⟩)
  |xt id=>exact .inr (.inr ⟨id,rfl,h⟩)
theorem aba{S1:T}{Q:En->World->Prop}(hk:Then C Gp m S S' w0 E Q){E1:En}(a1:Ag S.H.nx E E1)(n1:S.H.nx<=S1.H.nx):Then C Gp m S1 S' w0 E1 Q:=
 fun E2 w2 a2 n2 at2=>hk E2 w2 (a1.trans a2 n1) (zap n1 n2) at2
theorem run_skip{c:Code}(hc:c=.skip\/∃l,c=.label l):abg C Gp (fun m S=>eSkip K m S) c:=by
 intro m S e S' hv w0 E w Q h hq hk;cases hv
 have:=hk E w (Ag.refl _ _) (zab _) h
 rcases hc with rfl|⟨l,rfl⟩
 ·exact c_skip this
 ·exact c_label this
theorem run_exit{id:Nat}:abg C Gp (fun m S=>eExit id K m S) (.exit id):=by
 intro m S e S' hv w0 E w Q h hq hk;cases hv
 exact c_exit (hk E w (Ag.refl _ _) (zab _) h)
theorem run_ret:abg C Gp (fun m S=>eRet K m S) .ret:=by
 intro m S e S' hv w0 E w Q h hq hk;cases hv
 exact c_ret (hk E w (Ag.refl _ _) (zab _) h)
theorem run_cond{c:Operand}{x y:Code}{a b:Ef}(hC:Cok C Gp)(ha:abg C Gp (fun m S=>a K m S) x)(hb:abg C Gp (fun m S=>b K m S) y):abg C Gp (fun m S=>eCond c x y a b K m S) (.cond c x y):=by
 intro m S e S' hv w0 E w Q h hq hk;obtain⟨v,h1,hv⟩:=aaa hv;obtain⟨t,h2,hv⟩:=aaa hv;obtain rfl:=asB_ok h2;have hx:evn (aau E m S.D) (rF E S.F) c=.bool t:=(aaj (h.sd hC) h1).1;cases t with
 |true=>exact c_true hx (ha m S e S' hv w0 E w Q h hq hk)
 |false=>exact c_false hx (hb m S e S' hv w0 E w Q h hq hk)
theorem run_block{id:Nat}{x:Code}{a:Ef}(ha:abg C Gp (fun m S=>a K m S) x):abg C Gp (fun m S=>eBlock id x a K m S) (.block id x):=by
 intro m S e S' hv w0 E w Q h hq hk;obtain⟨e1,S1,h1,h2⟩:=onX_some hv;refine c_block (ha m S e1 S1 h1 w0 E w _ h (np_block hq) ?_);intro E1 w1 a1 n1 at1;rcases h2 with⟨rfl,h2⟩|⟨rfl,h2⟩|⟨i,rfl,h2⟩
 ·cases h2;exact b_normal (hk E1 w1 a1 n1 at1)
 ·cases h2;exact b_ret (hk E1 w1 a1 n1 at1)
 ·rw [aaf]at h2;split at h2
  ·rename_i hi;rw [aad]at hi;subst hi;cases h2
   exact b_here (hk E1 w1 a1 n1 at1)
  ·rename_i hi;cases h2
   refine b_past ?_ (hk E1 w1 a1 n1 at1);cases hx:zac i id with
   |false=>rfl
   |true=>exact absurd hx hi
theorem run_scope{x:Code}{a:Ef}(ha:abg C Gp (fun m S=>a K m S) x):abg C Gp (fun m S=>eScope x a K m S) (.scope x):=by
 intro m S e S' hv w0 E w Q h hq hk;obtain⟨h1,hv⟩:=aab hv;obtain⟨mn,mm⟩:=m;cases mm with
 |some _=>cases h1
 |none=>
  refine c_scope (ha _ S e S' hv w0 E w _ h (np_scope hq) ?_);intro E1 w1 a1 n1 at1
  have:=hk E1 w1 a1 n1 at1
  cases e with
  |nm=>exact n_normal this
  |rt=>exact n_ret this
  |xt id=>exact n_exit this
theorem run_seq{x y:Code}{a b:Ef}(ha:abg C Gp (fun m S=>a K m S) x)(hb:abg C Gp (fun m S=>b K m S) y):abg C Gp (fun m S=>eSeq x y a b K m S) (.seq x y):=by
 intro m S e S' hv w0 E w Q h hq hk;obtain⟨e1,S1,h1,h2⟩:=onX_some hv;refine c_seq (ha m S e1 S1 h1 w0 E w _ h (np_seqA hq) ?_);intro E1 w1 a1 n1 at1;rcases h2 with⟨rfl,h2⟩|⟨rfl,h2⟩|⟨i,rfl,h2⟩
 ·have:=hb m S1 e S' h2 w0 E1 w1 Q at1 hq (aba hk a1 n1)
  have hr:ro E1 m=ro E m:=ro_ext a1 h.m;unfold aau at this⊢;rw [hr]at this⊢;exact q_next this
 ·cases h2;exact s_ret (hk E1 w1 a1 n1 at1)
 ·cases h2;exact s_exit (hk E1 w1 a1 n1 at1)
theorem run_region{id:Nat}{ops:Array Oper}{d:Bool}(hC:Cok C Gp)(hK:KsOk C Gp K) (hd:∀m S S',drawE C K m ops S=some S'->∀w0 E w (Q:Exit->Act->World->Prop),At C Gp m S w0 E w->NoP Q->
  Then C Gp m S S' w0 E (fun E' w'=>Q .normal (fr (aau E' m S'.D) (rF E' S'.F)) w')->Go.Wk.C C.P (aau E m S.D) Q (.region id ops true) (rF E S.F) w):abg C Gp (fun m S=>eRegion C id ops d K m S) (.region id ops d):=by
 intro m S e S' hv w0 E w Q h hq hk;cases d with
 |true=>
  obtain⟨S1,h1,hv⟩:=aaa (show(ob (drawE C K m ops S) kNm)=some (e,S')from hv);cases hv
  exact hd m S S' h1 w0 E w Q h hq hk
 |false=>
  obtain⟨S1,h1,hv⟩:=aaa (show(ob (opsE C K m ops ops.toList S) kNm)=some (e,S')from hv);cases hv
  obtain⟨l⟩:=ops;exact c_region (opsE_ok hC hK l S S' E w h h1 Q hk)
end
open Go.Wk
open List renaming map_append -> zav, map_congr_left -> zae, map_cons -> zal, mem_cons_self -> zah
open Nat renaming beq -> zac, le_trans -> zap
def LB(P:Program)(n:Md)(Q:Exit->Act->World->Prop)(c:Code)(F:Nat->Value)(w:World):Prop:=
 match n.ro with
 |none=>∀(b:Frame) (k:List Item) (cs:List Frame),∃e a' w',Q e a' w'/\Arrives P (lone (b.at (fr n F) (.code c::.inLoop c::k)) cs w) b k cs e a' w'
 |some x=>∀(b:Frame) (k:List Item) (cs:List Frame),b.roundOf=(fen x).round->(fen x).fn b.fn->(fen x).room (cs.length+1+0)->
   ∃e a' w',Q e a' w'/\ArrivesIn (Machine.fenced P (fen x)) P (lone (b.atR (fr n F) (.code c::.inLoop c::k)) cs w) b k cs e a' w'
theorem lb_loop{P:Program}{n:Md}{Q:Exit->Act->World->Prop}{c:Code}{F:Nat->Value}{w:World}(h:LB P n Q c F w):Go.Wk.C P n Q (.loop c) F w:=by
 obtain⟨nn,D,ro⟩:=n;cases ro with
 |none=>
  unfold Go.Wk.C CC;intro b kk cs;obtain⟨e,a',w',hq,harr⟩:=h b kk cs;exact⟨e,a',w',hq,.of_steps (.one step_loop) harr⟩
 |some x=>
  unfold Go.Wk.C CC;intro b kk cs hro hb hr;obtain⟨e,a',w',hq,harr⟩:=h b kk cs hro hb hr;exact⟨e,a',w',hq,.of_steps (.one (fenced_calm hb hr rfl) stepR_loop) harr⟩
theorem lb_step{P:Program}{n:Md}{Q:Exit->Act->World->Prop}{c:Code}{F:Nat->Value}{w:World}
  (h:Go.Wk.C P n (Exit.then (fun a' w'=>∃F',a'=fr n F'/\LB P n Q c F' w') Q) c F w):LB P n Q c F w:=by
 obtain⟨nn,D,ro⟩:=n;cases ro with
 |none=>
  unfold Go.Wk.C CC at h;intro b kk cs;obtain⟨e,a₁,w₁,hq,harr⟩:=h b (.inLoop c::kk) cs;cases e with
  |normal=>
   obtain⟨F',rfl,hlb⟩:=hq;obtain⟨e₂,a₂,w₂,hq₂,harr₂⟩:=hlb b kk cs;exact⟨e₂,a₂,w₂,hq₂,.of_steps (Steps.trans harr (.one step_inLoop)) harr₂⟩
  |exit id=>exact⟨_,a₁,w₁,hq,.pass (x:=.inLoop c) rfl (fun _ _=>.inl (by simp)) harr⟩
  |goto l=>exact⟨_,a₁,w₁,hq,.pass (x:=.inLoop c) rfl (fun _ _=>.inl (by simp)) harr⟩
  |ret=>exact⟨_,a₁,w₁,hq,.pass (x:=.inLoop c) rfl (fun _ _=>.inl (by simp)) harr⟩
  |panic ch=>exact⟨_,a₁,w₁,hq,.pass (x:=.inLoop c) rfl (fun _ _=>.inl (by simp)) harr⟩
  |outgrown=>exact⟨_,a₁,w₁,hq,.pass (x:=.inLoop c) rfl (fun _ _=>.inl (by simp)) harr⟩
 |some x=>
  unfold Go.Wk.C CC at h;intro b kk cs hro hb hr;obtain⟨e,a₁,w₁,hq,harr⟩:=h b (.inLoop c::kk) cs hro hb hr;cases e with
  |normal=>
   obtain⟨F',rfl,hlb⟩:=hq;obtain⟨e₂,a₂,w₂,hq₂,harr₂⟩:=hlb b kk cs hro hb hr;exact⟨e₂,a₂,w₂,hq₂,.of_steps (StepsIn.trans harr (.one (fenced_calm hb hr rfl) stepR_inLoop)) harr₂⟩
  |exit id=>exact⟨_,a₁,w₁,hq,.pass (x:=.inLoop c) rfl (fun _ _=>.inl (by simp)) harr⟩
  |goto l=>exact⟨_,a₁,w₁,hq,.pass (x:=.inLoop c) rfl (fun _ _=>.inl (by simp)) harr⟩
  |ret=>exact⟨_,a₁,w₁,hq,.pass (x:=.inLoop c) rfl (fun _ _=>.inl (by simp)) harr⟩
  |panic ch=>exact⟨_,a₁,w₁,hq,.pass (x:=.inLoop c) rfl (fun _ _=>.inl (by simp)) harr⟩
  |outgrown=>exact⟨_,a₁,w₁,hq,.pass (x:=.inLoop c) rfl (fun _ _=>.inl (by simp)) harr⟩
section
variable {C : Cx} {Gp : World -> Prop} {m : M} {S S' : T} {w0 w : World} {E E' : En} {K : Ks} {H : Hs}
theorem oeq_ok{a b:Option Nat}(h:oeq a b=true):a=b:=by
 cases a with
 |none=>cases b with
  |none=>rfl
  |some y=>cases h
 |some x=>cases b with
  |none=>cases h
  |some y=>
   have h':zac x y=true:=h;rw [aad]at h';rw [h']
theorem rounds_ok{x:Code}{a:Ef}(ha:abg C Gp (fun m S=>a K m S) x):∀(f:Nat) (m:M) (S:T) (e:Ex) (S':T),rounds a f K m S=some (e,S')->∀w0 E w Q,At C Gp m S w0 E w->NoP Q->
  Then C Gp m S S' w0 E (fun E' w'=>Q (exr e) (fr (aau E' m S'.D) (rF E' S'.F)) w')->LB C.P (aau E m S.D) Q x (rF E S.F) w
 |0,m,S,e,S',hv,w0,E,w,Q,h,hq,hk=>by cases hv
 |f+1,m,S,e,S',hv,w0,E,w,Q,h,hq,hk=>by
  obtain⟨e1,S1,h1,h2⟩:=onX_some (show onX (a K m S) (fun S1=>bi (oeq S.D S1.D) (rounds a f K m S1) none) kRt kXt=some (e,S')from hv);refine lb_step (ha m S e1 S1 h1 w0 E w _ h (np_then hq) ?_);intro E1 w1 a1 n1 at1;rcases h2 with⟨rfl,h2⟩|⟨rfl,h2⟩|⟨i,rfl,h2⟩
  ·obtain⟨h3,h2⟩:=aab h2;have hD:=oeq_ok h3;have hm:aau E1 m S1.D=aau E m S.D:=by rw [<-hD];exact mdOf_ext a1 h.m h.d
   have:=rounds_ok ha f m S1 e S' h2 w0 E1 w1 Q at1 hq (aba hk a1 n1)
   rw [hm]at this⊢;exact q_loop ⟨_,rfl,this⟩
  ·cases h2;exact q_ret (hk E1 w1 a1 n1 at1)
  ·cases h2;exact q_exit (hk E1 w1 a1 n1 at1)
theorem run_loop{x:Code}{a:Ef}(ha:abg C Gp (fun m S=>a K m S) x):abg C Gp (fun m S=>eLoop x a K m S) (.loop x):=
 fun m S e S' hv w0 E w Q h hq hk=>lb_loop (rounds_ok ha FU m S e S' hv w0 E w Q h hq hk)
theorem c_rangeFunc'{P:Program}{k:Nat}{Q:Exit->Act->World->Prop}{F:Nat->Value}{L:List Res}{g:Operand}{ps:Array Tmp}{assign body:Code}(hH:Hp w0 [] L w)(f:Nat)(cap:List Value)(hg:evn ⟨k,[],some none⟩ F g=.func (.func f) #[] cap.toArray)
  (hc:∀rc:Loop,rc.assign=assign->rc.body=body->rc.params=ps->rc.tmps=(fr ⟨k,[],some none⟩ F).tmps->∀w2,Hp w0 [] (lrec (w.heap.size+1) 0 rc::dfr w.heap.size::L) w2->
   Enters P f/\CR P f (.func (.yield (w.heap.size+1)) #[] #[]::cap) w2 fun _ w3=>∃j rc' L3,Hp w0 [] (lrec (w.heap.size+1) j rc'::L3) w3/\∀w4,Hp w0 [] L3 w4->RgQ P k w.heap.size Q F j w4):
  Go.Wk.C P ⟨k,[],some none⟩ Q (.rangeFunc g ps assign body) F w:=by
 unfold Go.Wk.C CC;refine wpIn_rangeFunc fun fn _=> ?_
 have hH1:=hH.allocR (.deferred (some [])) (dfr w.heap.size) rfl rfl;have hH2:=hH1.allocR (.loop {state:=.ready,pending:=none,fn:=fn,tmps:=(fr ⟨k,[],some none⟩ F).tmps,params:=ps,assign:=assign,body:=body,defers:=w.heap.size}) (lrec (w.heap.size+1) 0 {state:=.ready,pending:=none,fn:=fn,tmps:=(fr ⟨k,[],some none⟩ F).tmps,params:=ps,assign:=assign,body:=body,defers:=w.heap.size}) (by simp [lrec]) rfl;obtain⟨hE,hc⟩:=hc _ rfl rfl rfl rfl _ hH2;refine⟨w.heap.size+1,[Go.Wk.mark w.heap.size],((w.alloc (.deferred (some []))).alloc (.loop {state:=.ready,pending:=none,fn:=fn,tmps:=(fr ⟨k,[],some none⟩ F).tmps,params:=ps,assign:=assign,body:=body,defers:=w.heap.size})),{target:=.fn (.func f) cap.toArray,args:= #[]++ #[.func (.yield (w.heap.size+1)) #[] #[]]},((w.alloc (.deferred (some []))).alloc (.loop {state:=.ready,pending:=none,fn:=fn,tmps:=(fr ⟨k,[],some none⟩ F).tmps,params:=ps,assign:=assign,body:=body,defers:=w.heap.size})),f,(Value.func (.yield (w.heap.size+1)) #[] #[]::cap).toArray,((w.alloc (.deferred (some []))).alloc (.loop {state:=.ready,pending:=none,fn:=fn,tmps:=(fr ⟨k,[],some none⟩ F).tmps,params:=ps,assign:=assign,body:=body,defers:=w.heap.size})),run_enterLoop_outer fn _ _ _ _, ?_,fun _ _=>trivial, ?_,fun h=>absurd h Bool.false_ne_true, ?_⟩
 ·rw [aar];simp only [resolve,rangeCall,hg,Deferred.ofValue];simp
  rfl
 ·have e:(#[]++ #[Value.func (.yield (w.heap.size+1)) #[] #[]]:Array Value)++cap.toArray=(Value.func (.yield (w.heap.size+1)) #[] #[]::cap).toArray:=by simp
  rw [<-e];exact hE.run _ _
 ·refine(callsIn_wide (n:=0)).2 (Calls.mono hc ?_)
  rintro e w3 ⟨v,rfl,j,rc',L3,h3,h4⟩
  have hl:w3.heap[w.heap.size+1]? =_:=(h3.res _ (zah)).1;have hb:lst j≠.busy:=by unfold lst;split<;>simp
  refine⟨jmp j,_,run_endLoop hl hb, ?_⟩
  have h5:=(h3.put 0 (w.heap.size+1) _ (gone (w.heap.size+1)) (.loop {({rc' with state:=lst j,pending:=jmp j}:Loop)with state:=.exhausted,pending:=jmp j}) rfl rfl rfl trivial).tail;have h6:=h4 _ h5;unfold RgQ at h6
  revert h6
  generalize jmp j=pd;intro h6;cases pd with
  |none=>exact h6
  |some c=>unfold Go.Wk.C CC at h6;exact h6
theorem run_range{f:Operand}{ps:Array Nat}{asg body:Code}{xa xb:Ef}(hC:Cok C Gp)(hK:KsOk C Gp K):abg C Gp (fun m S=>eRange f ps asg body xa xb K m S) (.rangeFunc f ps asg body):=by
 intro m S e S' hv w0 E w Q h hq hk;obtain⟨mm,h1,hv⟩:=aaa hv;obtain⟨h2,hv⟩:=aab hv;obtain⟨h3,hv⟩:=aab hv;obtain⟨g,h4,hv⟩:=aaa hv;obtain⟨hf,hfok⟩:=aaj (h.sd hC) h4;obtain⟨mn,mo⟩:=m;have hmm:mo=some none:=by
  have h1':mo=some mm:=h1;cases mm with
  |none=>exact h1'
  |some l=>cases h2
 subst hmm;have hD:S.D=none:=by simpa using h3
 cases g with
 |fn k cs=>
  obtain⟨⟨u,H2⟩,h5,hv⟩:=aaa (show(ob (K.call k (.c (.y (S.H.nx+1))::ptrs cs) ((S.H.add .df).add (.lp false 0 mn ps.toList asg body S.F))) fun r=>ob (lpAt r.2 (S.H.nx+1) false) fun q=>
   (fun S':T=>(Nat.rec (some (.nm,S')) (fun j _=>Nat.rec (some (.rt,S')) (fun id _=>some (.xt id,S')) j) q.1:RT)) ⟨S.F,r.2.upd (S.H.nx+1) .gn,some S.H.nx⟩)=some (e,S')from hv)
  obtain⟨q,h6,hv⟩:=aaa hv;have hmd:aau E ⟨mn,some none⟩ S.D=⟨mn,[],some none⟩:=by rw [hD];rfl
  rw [hmd]at hf⊢;have hf':evn ⟨mn,[],some none⟩ (rF E S.F) f=.func (.func k) #[] (cs.map fun i=>Value.pointer (some ⟨(E i).1,0,none⟩)).toArray:=hf;refine c_rangeFunc' h.inv.hp k _ hf' ?_;intro rc r1 r2 r3 r4 w2 hp2
  let E1:=eat E S.H.nx (w.heap.size,0)
  let E2:=eat E1 (S.H.nx+1) (w.heap.size+1,0)
  have a1:Ag S.H.nx E E1:=aav _ _ _;have a2:Ag (S.H.nx+1) E1 E2:=aav _ _ _;have a12:Ag S.H.nx E E2:=a1.trans a2 (by omega);have inv1:Inv w0 E1 (S.H.add .df) w2:=by
   refine h.inv.add a1 trivial ?_;have e1:resOf E1 S.H.nx .df=dfr w.heap.size:=by simp only [resOf,E1,aah]
   rw [e1];exact hp2.tail
  have inv2:Inv w0 E2 ((S.H.add .df).add (.lp false 0 mn ps.toList asg body S.F)) w2:=by
   refine inv1.add a2 (Fok.up (by show S.H.nx<=S.H.nx+1+1;omega) h.fok) ?_;have e1:resOf E2 (S.H.nx+1) (.lp false 0 mn ps.toList asg body S.F)=lpres (w.heap.size+1) false 0 mn ps.toList asg body (rF E S.F):=by
    simp only [resOf];rw [rF_ext a12 h.fok];simp only [E2,aah]
   show Hp w0 [] (resOf E2 (S.H.nx+1) (.lp false 0 mn ps.toList asg body S.F)::aam E1 (S.H.add .df)) w2;rw [e1];have e2:aam E1 (S.H.add .df)=aam E S.H++[dfr w.heap.size]:=by
    show(List.range (S.H.nx+1)).map _=_
    rw [List.range_succ,zav];congr 1
    ·refine zae fun i hi=> ?_
     have hi:i<S.H.nx:=List.mem_range.1 hi;rw [hat_add,if_neg (by omega),resOf_ext a1 hi (h.inv.hatok i)]
    ·simp [hat_add,resOf,E1,aah]
   rw [e2];have hp3:=hp_weak (k:=0) (r':=lpres (w.heap.size+1) false 0 mn ps.toList asg body (rF E S.F)) hp2 rfl rfl ⟨rc,r1,r2,by rw [r3],r4,(hp2.res _ zah).1⟩;refine hp3.perm ?_;refine List.Perm.cons _ ?_;exact(List.perm_append_singleton _ _).symm
  obtain⟨p1,p2⟩:=ptrs_ok (k:=S.H.nx) E2 (l:=cs) hfok;obtain⟨hE,hcr⟩:=hK.call k _ _ _ _ h5 w0 E2 w2 h.gp inv2 (fun x hx=>by
   rcases List.mem_cons.1 hx with rfl|hx
   ·show S.H.nx+1<S.H.nx+1+1;omega
   ·exact SV.up (by show S.H.nx<=S.H.nx+1+1;omega) (p2 x hx))
  refine⟨hE, ?_⟩
  have hargs:(SV.c (.y (S.H.nx+1))::ptrs cs).map (SV.re E2)=.func (.yield (w.heap.size+1)) #[] #[]::cs.map fun i=>Value.pointer (some ⟨(E i).1,0,none⟩):=by
   rw [zal,p1];congr 1
   ·simp only [SV.re,SC.re,E2,aah]
   ·exact zae fun i hi=>by rw [a12 i (hfok i hi)]
  rw [hargs]at hcr;refine CR.mono hcr ?_;rintro V w3 ⟨E3,g1,g2,g3,g4,rfl⟩
  obtain⟨hi3,hF3,rc3,t1,t2,t3,t4,t5⟩:=lp_get g3 h6;have ei:(E3 (S.H.nx+1)).1=w.heap.size+1:=by
   rw [g1 (S.H.nx+1) (by show S.H.nx+1<S.H.nx+1+1;omega)];simp only [E2,aah]
  have e0:(E3 S.H.nx).1=w.heap.size:=by
   rw [g1 S.H.nx (by show S.H.nx<S.H.nx+1+1;omega)];rw [a2 S.H.nx (by omega)];simp only [E1,aah]
  have a3:Ag S.H.nx E E3:=a12.trans g1 (by show S.H.nx<=S.H.nx+1+1;omega);have n3:S.H.nx<=H2.nx:=zap (by show S.H.nx<=S.H.nx+1+1;omega) g2;simp only at t5;rw [ei]at t5;have hlen3:S.H.nx+1<(aam E3 H2).length:=by rw [aat];exact hi3
  have hp4:=t5.front (S.H.nx+1) _ (List.getElem?_set_self hlen3);refine⟨q.1,rc3,_,hp4, ?_⟩
  intro w4 hp5;have inv4:Inv w0 E3 (H2.upd (S.H.nx+1) .gn) w4:=by
   refine g3.upd hi3 trivial ?_;have e5:((aam E3 H2).set (S.H.nx+1) (lrec (w.heap.size+1) q.1 rc3)).eraseIdx (S.H.nx+1)=(aam E3 H2).eraseIdx (S.H.nx+1):=by
    rw [List.eraseIdx_set_eq]
   rw [e5]at hp5;exact Hp.perm (hp_gn hp5) (set_perm _ _ _ hlen3).symm
  have hd4:∀r,some S.H.nx=some r->r<H2.nx:=fun r e=>by
   cases e
   have:S.H.nx+1+1<=H2.nx:=g2
   omega
  have at4:At C Gp ⟨mn,some none⟩ ⟨S.F,H2.upd (S.H.nx+1) .gn,some S.H.nx⟩ w0 E3 w4:=
   ⟨inv4,Fok.up n3 h.fok,h.gp,(fun l e=>by cases e),hd4⟩
  have hmd3:aau E3 ⟨mn,some none⟩ (some S.H.nx)=⟨mn,[Go.Wk.mark w.heap.size],some none⟩:=by
   show(⟨mn,[Go.Wk.mark (E3 S.H.nx).1],some none⟩:Md)=_
   rw [e0]
  have hF4:rF E3 S.F=rF E S.F:=rF_ext a3 h.fok;generalize hj:q.1=j at hv⊢;cases j with
  |zero=>
   have ev:((.nm,⟨S.F,H2.upd (S.H.nx+1) .gn,some S.H.nx⟩):Ex×T)=(e,S'):=Option.some.inj hv;cases ev
   have this:Q .normal (fr (aau E3 ⟨mn,some none⟩ (some S.H.nx)) (rF E3 S.F)) w4:=hk E3 w4 a3 n3 at4;rw [hmd3,hF4]at this;exact rg0 rfl this
  |succ j=>
   cases j with
   |zero=>
    have ev:((.rt,⟨S.F,H2.upd (S.H.nx+1) .gn,some S.H.nx⟩):Ex×T)=(e,S'):=Option.some.inj hv;cases ev
    have this:Q .ret (fr (aau E3 ⟨mn,some none⟩ (some S.H.nx)) (rF E3 S.F)) w4:=hk E3 w4 a3 n3 at4;rw [hmd3,hF4]at this;exact rg1 rfl (c_ret this)
   |succ id=>
    have ev:((.xt id,⟨S.F,H2.upd (S.H.nx+1) .gn,some S.H.nx⟩):Ex×T)=(e,S'):=Option.some.inj hv;cases ev
    have this:Q (.exit id) (fr (aau E3 ⟨mn,some none⟩ (some S.H.nx)) (rF E3 S.F)) w4:=hk E3 w4 a3 n3 at4;rw [hmd3,hF4]at this;exact rgx id rfl (c_exit this)
 |_=>cases hv
end
open Go.Wk
open Bool renaming eq_iff_iff -> zau
open List renaming map_append -> zav, map_congr_left -> zae, mem_cons_of_mem -> zag, mem_cons_self -> zah
open Nat renaming beq -> zac, ble -> zad, blt -> zak
open Option renaming rec -> zaa
theorem beqb_ok{a b:Bool}(h:beqb a b=true):a=b:=by cases a<;>cases b<;>first|rfl|cases h
theorem cpe_ok{a b:Cp}(h:Cp.eqb a b=true):a=b:=by
 cases a with
 |k c=>cases b with
  |k c'=>have h':zac c c'=true:=h;rw [aad]at h';rw [h']
  |r _=>cases h
 |r c=>cases b with
  |r c'=>have h':zac c c'=true:=h;rw [aad]at h';rw [h']
  |k _=>cases h
theorem bb2{a b:Bool}(h:bi a b false=true):a=true/\b=true:=by
 cases a with
 |true=>exact⟨rfl,h⟩
 |false=>cases h
theorem nb{a b:Nat}(h:zac a b=true):a=b:=by rw [aad]at h;exact h
theorem eqL_ok{α:Type}{q:α->α->Bool}(hq:∀{x y},q x y=true->x=y):∀{l r:List α},eqL q l r=true->l=r
 |[],[],_=>rfl
 |[],_::_,h=>by cases h
 |_::_,[],h=>by cases h
 |x::l,y::r,h=>by
  obtain⟨h1,h2⟩:=bb2 (show bi (q x y) (eqL q l r) false=true from h);rw [hq h1,eqL_ok hq h2]
theorem sce_ok{x y:SC}(h:SC.eqb x y=true):x=y:=by
 unfold SC.eqb at h;split at h
 ·rw [beqb_ok h]
 ·obtain⟨h1,h2⟩:=bb2 h;rw [kn_inj h1,nb h2]
 ·obtain⟨h1,h2⟩:=bb2 h;rw [nb h1,nb h2]
 ·rfl
 ·rfl
 ·rfl
 ·rfl
 ·rfl
 ·obtain⟨h1,h2⟩:=bb2 h;rw [nb h1,nb h2]
 ·obtain⟨h1,h2⟩:=bb2 h;rw [nb h1,nb h2]
 ·obtain⟨h1,h2⟩:=bb2 h;obtain⟨h2,h3⟩:=bb2 h2;obtain⟨h3,h4⟩:=bb2 h3;rw [nb h1,nb h2,nb h3,cpe_ok h4]
 ·obtain⟨h1,h2⟩:=bb2 h;rw [nb h1,eqL_ok nb h2]
 ·rw [nb h]
 ·rw [nb h]
 ·obtain⟨h1,h2⟩:=bb2 h;obtain⟨h2,h3⟩:=bb2 h2;obtain⟨h3,h4⟩:=bb2 h3;rw [nb h1,nb h2,nb h3,nb h4]
 ·cases h
theorem sae_ok{x y:SA}(h:SA.eqb x y=true):x=y:=by
 cases x<;>cases y<;>first|cases h|skip
 ·rw [sce_ok (show SC.eqb _ _=true from h)]
 ·rw [eqL_ok sce_ok (show eqL SC.eqb _ _=true from h)]
theorem sve_ok{x y:SV}(h:SV.eqb x y=true):x=y:=by
 cases x<;>cases y<;>first|rfl|cases h|skip
 ·rw [sce_ok (show SC.eqb _ _=true from h)]
 ·rw [eqL_ok sce_ok (show eqL SC.eqb _ _=true from h)]
 ·rw [eqL_ok sae_ok (show eqL SA.eqb _ _=true from h)]
theorem moe_ok{x y:Mo}(h:Mo.eqb x y=true):x=y:=by
 cases x<;>cases y<;>first|rfl|cases h|skip
 obtain⟨h1,h2⟩:=bb2 (show bi (zac _ _) (zac _ _) false=true from h);rw [nb h1,nb h2]
theorem p2e_ok{x y:SC×SC}(h:P2.eqb x y=true):x=y:=by
 obtain⟨h1,h2⟩:=bb2 (show bi (SC.eqb x.1 y.1) (SC.eqb x.2 y.2) false=true from h);exact Prod.ext (sce_ok h1) (sce_ok h2)
theorem hbe_ok{x y:HB}(h:HB.eqb x y=true):x=y:=by
 unfold HB.eqb at h;split at h
 ·rw [eqL_ok p2e_ok h]
 ·obtain⟨h1,h2⟩:=bb2 h;obtain⟨h2,h3⟩:=bb2 h2;rw [nb h1,moe_ok h2,eqL_ok sce_ok h3]
 ·obtain⟨h1,h2⟩:=bb2 h;obtain⟨h2,h3⟩:=bb2 h2;rw [nb h1,nb h2,nb h3]
 ·rfl
 ·rfl
 ·cases h
theorem oe_ok{α:Type}{q:α->α->Bool}(hq:∀{x y},q x y=true->x=y){x y:Option α}(h:oeqb q x y=true):x=y:=by
 cases x<;>cases y<;>first|rfl|cases h|skip
 rw [hq (show q _ _=true from h)]
theorem tre_ok{α:Type}{q:α->α->Bool}(hq:∀{x y},q x y=true->x=y):∀{t t':Tr α},Tr.eqb q t t'=true->t=t'
 |.e,.e,_=>rfl
 |.e,.n ..,h=>by cases h
 |.n ..,.e,h=>by cases h
 |.n l v r,.n l' v' r',h=>by
  obtain⟨h1,h2⟩:=bb2 (show bi (oeqb q v v') (bi (Tr.eqb q l l') (Tr.eqb q r r') false) false=true from h);obtain⟨h2,h3⟩:=bb2 h2;rw [oe_ok hq h1,tre_ok hq h2,tre_ok hq h3]
theorem te_ok{S S':T}(h:T.eqb S S'=true):S=S':=by
 obtain⟨h1,h2⟩:=bb2 h;obtain⟨h2,h3⟩:=bb2 h2;obtain⟨h3,h4⟩:=bb2 h3;obtain⟨F,⟨n,t⟩,D⟩:=S;obtain⟨F',⟨n',t'⟩,D'⟩:=S';rw [show n=n' from nb h1,show D=D' from oeq_ok h2,show F=F' from tre_ok sve_ok h3,show t=t' from tre_ok hbe_ok h4]
theorem blL_ok{n:Nat}:∀{l:List Nat},blL n l=true->∀i∈l,i<n
 |[],_,i,hi=>by cases hi
 |x::l,h,i,hi=>by
  obtain⟨h1,h2⟩:=bb2 (show bi (zad (x+1) n) (blL n l) false=true from h);rcases List.mem_cons.1 hi with rfl|hi
  ·rw [aac]at h1;exact h1
  ·exact blL_ok h2 i hi
theorem sc_okb{n:Nat}{x:SC}(h:x.okb n=true):x.ok n:=by
 cases x with
 |p i off=>have h':zad (i+1) n=true:=h;rw [aac]at h';exact h'
 |sl i base m c=>have h':zad (i+1) n=true:=h;rw [aac]at h';exact h'
 |y i=>have h':zad (i+1) n=true:=h;rw [aac]at h';exact h'
 |m i=>have h':zad (i+1) n=true:=h;rw [aac]at h';exact h'
 |z i b dd off=>have h':zad (i+1) n=true:=h;rw [aac]at h';exact h'
 |fn f cs=>exact blL_ok (show blL n cs=true from h)
 |_=>trivial
theorem okL_ok{n:Nat}:∀{l:List SC},okL n l=true->∀x∈l,x.ok n
 |[],_,i,hi=>by cases hi
 |x::l,h,i,hi=>by
  obtain⟨h1,h2⟩:=bb2 (show bi (x.okb n) (okL n l) false=true from h);rcases List.mem_cons.1 hi with rfl|hi
  ·exact sc_okb h1
  ·exact okL_ok h2 i hi
theorem sv_okb{n:Nat}{v:SV}(h:v.okb n=true):v.ok n:=by
 cases v with
 |c x=>exact sc_okb h
 |a l=>exact okL_ok h
 |t l=>cases h
 |u=>trivial
section
variable {C : Cx} {Gp : World -> Prop} {m : M} {n : Md} {S S' : T} {w0 w : World} {E E' : En} {K : Ks} {H : Hs}
theorem hp_none(w:World):∀L:List Res,(∀r∈L,r=⟨none,fun _=>True⟩)->Hp w [] L w
 |[],_=>Hp.refl w
 |r::L,h=>by
  rw [h r zah];exact hp_gn (hp_none w L fun r hr=>h r (zag _ hr))
theorem inv_bare(E:En)(n:Nat)(w:World):Inv w E ⟨n,.e⟩ w:=by
 refine⟨hp_none w _ fun r hr=> ?_,fun i b h=> ?_,fun i b h=> ?_⟩
 ·obtain⟨i,_,rfl⟩:=List.mem_map.1 hr;show resOf E i (hat ⟨n,.e⟩ i)=_;unfold hat;simp only [Tr.get_e];rfl
 ·simp only [Tr.get_e]at h;cases h
 ·simp only [Tr.get_e]at h;cases h
theorem slOf_ok{op:Op}{q:Nat×Operand×Option Operand×Option Operand×Option Operand}(h:slOf op=some q):op=.slice q.1 q.2.1 q.2.2.1 q.2.2.2.1 q.2.2.2.2:=by
 cases op<;>first|(cases h;rfl)|cases h
theorem bare_ok(h0:Sd C m S n w0 E w){o:Oper}{v:SV}(hv:valB C m S o=some v)(w:World):(execOp (evn n (rF E S.F)) o).run C.P w=.ok (.value (v.re E)) w/\v.ok S.H.nx:=by
 have hs:Sd C.bare m (S0 S) n w E w:=⟨h0.hn,inv_bare E _ w,h0.fok,fun g cs h=>by cases h⟩
 obtain⟨d,op,ty,pos,after,gd⟩:=o;unfold valB at hv;cases hq:slOf op with
 |none=>
  have hv:(zaa (opV op C.bare m (S0 S) ⟨d,op,ty,pos,after,gd⟩) (fun q=>opSliceR C.bare m (S0 S) (room S) q.1 q.2.1 q.2.2.1 q.2.2.2.1 q.2.2.2.2) (slOf op):Option SV)=some v:=hv;rw [hq]at hv;exact opV_ok hs hv
 |some q=>
  have hv:(zaa (opV op C.bare m (S0 S) ⟨d,op,ty,pos,after,gd⟩) (fun q=>opSliceR C.bare m (S0 S) (room S) q.1 q.2.1 q.2.2.1 q.2.2.2.1 q.2.2.2.2) (slOf op):Option SV)=some v:=hv;rw [hq]at hv;have e:=slOf_ok hq;subst e;exact yd_sliceR hs (fun i k hr=>room_ok h0 hr) hv
theorem ldOf_ok{op:Op}{q:Nat×Operand}(h:ldOf op=some q):op=.load q.1 q.2:=by
 cases op<;>first|(cases h;rfl)|cases h
def fact(P:Program)(E:En)(f:Fa)(w:World):Prop:=∃A:Addr,f.x.re E=.pointer (some A)/\(loadVar f.t A).run P w=.ok (f.v.re E) w
def Srel(P:Program)(E:En)(fs:List Fa)(j:Nat)(w w':World):Prop:=∀f∈fs,Keep f.D (fact P E f) j w w'
theorem srel_refl(P:Program)(E:En)(fs:List Fa):∀j w,Srel P E fs j w w:=fun _ _ _ _=>Keep.same
inductive Fit (ops:Array Oper) (k:Nat):Nat->List Bool->Pl->Prop
 |dn {l:List Bool} (h:Region.seqB .any ops (ops.size-k) k l.toArray=true):Fit ops k 0 l .dn
 |pu {f:Nat} {l:List Bool} {i d:Nat} {o:Oper} {n:Pl} (h1:ops[i]? =some o) (h2:o.dst=some d) (h3:Region.free .any ops l.toArray i=true) (h4:(Region.ready .any ops l.toArray).contains i=true) (h5:zak i k=true)
   (h6:Fit ops k f (l.set i true) n):Fit ops k (f+1) l (.pu i o d n)
 |ld {f:Nat} {l:List Bool} {i d:Nat} {o:Oper} {n:Pl} {D:List Nat} (h1:ops[i]? =some o) (h2:o.dst=some d) (h3:Region.free .any ops l.toArray i=true) (h4:(Region.ready .any ops l.toArray).contains i=true) (h5:zak i k=true)
   (hD:descB .any ops i D=true) (h6:Fit ops k f (l.set i true) n):Fit ops k (f+1) l (.ld i o d D n)
 |on {f:Nat} {l:List Bool} {i:Nat} {o:Oper} {n:Pl} (h1:ops[i]? =some o) (h2:Region.ready .any ops l.toArray=[i]) (h5:zak i k=true) (h6:Fit ops k f (l.set i true) n):Fit ops k (f+1) l (.on i o n)
 |tw {f:Nat} {l:List Bool} {i j:Nat} {o o':Oper} {n n':Pl} (h1:ops[i]? =some o) (h1':ops[j]? =some o') (h2:Region.ready .any ops l.toArray=[i,j]) (h5:zak i k=true) (h5':zak j k=true)
   (h6:Fit ops k f (l.set i true) n) (h6':Fit ops k f (l.set j true) n'):Fit ops k (f+1) l (.tw i o n j o' n')
theorem qf_ok{ops:Array Oper}{k i:Nat}{l:List Bool}(h:qf C ops k l i=true):zak i k=true/\Region.free .any ops l.toArray i=true:=by
 obtain⟨h1,h2⟩:=bb2 h;refine⟨h1, ?_⟩
 cases ho:ops[i]? with
 |none=>rw [ho]at h2;cases h2
 |some o=>
  rw [ho]at h2;obtain⟨_,h2⟩:=bb2 (show bi (zad (kindV C o.op) 1) (bi o.dst.isSome (Region.free .any ops l.toArray i) false) false=true from h2);exact(bb2 h2).2
theorem planE_ok{ops:Array Oper}{k:Nat}:∀(f:Nat) (l:List Bool) (p:Pl),planE C ops k f l=some p->Fit ops k f l p
 |0,l,p,h=>by
  obtain⟨h1,h2⟩:=aab h;cases h2
  exact .dn h1
 |f+1,l,p,h=>by
  have h':zaa (stepL ops k (planE C ops k f) l (Region.ready .any ops l.toArray)) (stepQ C ops (planE C ops k f) l) ((Region.ready .any ops l.toArray).find? (qf C ops k l))=some p:=h;cases hf:(Region.ready .any ops l.toArray).find? (qf C ops k l)with
  |some i=>
   rw [hf]at h';obtain⟨o,h1,h'⟩:=aaa (show stepQ C ops (planE C ops k f) l i=some p from h');obtain⟨d,h2,h'⟩:=aaa h';obtain⟨n,h3,h'⟩:=aaa h';obtain⟨q1,q2⟩:=qf_ok (List.find?_some hf);have hm:(Region.ready .any ops l.toArray).contains i=true:=by simpa using List.mem_of_find?_eq_some hf
   have ih:=planE_ok f _ n h3;rw [aaf]at h';split at h'
   ·cases h';exact .pu h1 h2 q2 hm q1 ih
   ·obtain⟨h4,h'⟩:=aab h';cases h';exact .ld h1 h2 q2 hm q1 h4 ih
  |none=>
   rw [hf]at h';have h':stepL ops k (planE C ops k f) l (Region.ready .any ops l.toArray)=some p:=h';unfold stepL at h';split at h'
   ·rename_i i hr;obtain⟨h1,h'⟩:=aab h';obtain⟨o,h2,h'⟩:=aaa h';obtain⟨n,h3,h'⟩:=aaa h';cases h'
    exact .on h2 hr h1 (planE_ok f _ n h3)
   ·rename_i i j hr;obtain⟨h1,h'⟩:=aab h';obtain⟨h1',h'⟩:=aab h';obtain⟨o,h2,h'⟩:=aaa h';obtain⟨o',h2',h'⟩:=aaa h';obtain⟨n,h3,h'⟩:=aaa h';obtain⟨n',h3',h'⟩:=aaa h';cases h'
    exact .tw h2 h2' hr h1 h1' (planE_ok f _ n h3) (planE_ok f _ n' h3')
   ·cases h'
theorem planOf_ok{ops:Array Oper}{k:Nat}{p:Pl}(h:planOf C ops=some (k,p)):aas ops k=true/\Fit ops k k (List.replicate ops.size false) p:=by
 obtain⟨h1,h⟩:=aab (show bi (aas ops (kOf ops ops.size)) (ob (planE C ops (kOf ops ops.size) (kOf ops ops.size) (List.replicate ops.size false)) fun p=>some (kOf ops ops.size,p)) none=some (k,p)from h);obtain⟨q,h2,h⟩:=aaa h;cases h
 exact⟨h1,planE_ok _ _ _ h2⟩
end
theorem abb{α β:Type}(f:α->β):∀l:List α,mapL f l=l.map f
 |[]=>rfl
 |x::l=>by show f x::mapL f l=_;rw [abb f l];rfl
theorem allN_ok{g:Nat->Bool}:∀{n:Nat},allN g n=true->∀i,i<n->g i=true
 |0,_,i,hi=>by omega
 |n+1,h,i,hi=>by
  obtain⟨h1,h2⟩:=bb2 (show bi (g n) (allN g n) false=true from h);by_cases e:i=n
  ·rw [e];exact h1
  ·exact allN_ok h2 i (by omega)
theorem hatN_eq(H:Hs)(i:Nat):hatN H.t i=hat H i:=by
 unfold hatN hat;cases H.t.get i<;>rfl
theorem reb_get(t:Tr HB):∀(n k:Nat),(reb t n).get k=if k<n then some (hatN t k)else none
 |0,k=>by
  show Tr.get .e k=_;rw [Tr.get_e];simp
 |n+1,k=>by
  show((reb t n).set n (hatN t n)).get k=_
  rw [Tr.get_set,reb_get t n k];by_cases e:k=n
  ·subst e;simp
  ·rw [if_neg e];by_cases h:k<n
   ·rw [if_pos h,if_pos (by omega)]
   ·rw [if_neg h,if_neg (by omega)]
theorem hat_reb{S:T}{i:Nat}(hi:i<S.H.nx):hat S.rb.H i=hat S.H i:=by
 show((reb S.H.t S.H.nx).get i).getD .gn=_
 rw [reb_get,if_pos hi,hatN_eq];rfl
theorem rb_get{S:T}{i:Nat}{b:HB}(h:S.rb.H.t.get i=some b):i<S.H.nx/\b=hat S.H i:=by
 have h:(reb S.H.t S.H.nx).get i=some b:=h;rw [reb_get]at h;split at h
 ·rename_i hi;cases h
  exact⟨hi,hatN_eq _ _⟩
 ·cases h
theorem map_rot(g:Nat->Nat)(s s' n:Nat)(h:∀i,i<n->g (s+i)=s'+i):(List.range' s n).map g=List.range' s' n:=by
 rw [List.range'_eq_map_range,List.range'_eq_map_range,List.map_map];exact zae fun i hi=>h i (List.mem_range.1 hi)
theorem rot_eq(a p q i:Nat):rot a p q i=if i<a then i else if i<a+p then i+q else if i<a+p+q then i-p else i:=by
 unfold rot;have e:∀x y:Nat,zak x y=decide (x<y):=fun x y=>by
  rw [zau,decide_eq_true_iff];show zad (x+1) y=true↔_;rw [Nat.ble_eq];omega
 simp only [e,Nat.add_eq,Nat.sub_eq];by_cases h1:i<a
 ·simp [h1,bi]
 ·by_cases h2:i<a+p
  ·simp [h1,h2,bi]
  ·by_cases h3:i<a+p+q
   ·simp [h1,h2,h3,bi]
   ·simp [h1,h2,h3,bi]
theorem SC.ren_re(E:En)(f:Nat->Nat)(x:SC):x.re (fun i=>E (f i))=(x.ren f).re E:=by
 cases x with
 |sl i b n c=>cases c<;>rfl
 |fn g cs=>show _=SC.re E (.fn g (mapL f cs));rw [abb];simp [SC.re,List.map_map,Function.comp_def]
 |_=>rfl
theorem scs_ren(E:En)(f:Nat->Nat)(l:List SC):l.map (SC.re fun i=>E (f i))=(mapL (SC.ren f) l).map (SC.re E):=by
 rw [abb,List.map_map];exact zae fun x _=>SC.ren_re E f x
theorem SA.ren_re(E:En)(f:Nat->Nat)(x:SA):x.re (fun i=>E (f i))=(x.ren f).re E:=by
 cases x with
 |c x=>exact SC.ren_re E f x
 |a l=>show Value.agg _=Value.agg _;rw [scs_ren]
theorem SV.ren_re(E:En)(f:Nat->Nat)(x:SV):x.re (fun i=>E (f i))=(x.ren f).re E:=by
 cases x with
 |c x=>exact SC.ren_re E f x
 |a l=>show Value.agg _=Value.agg _;rw [scs_ren]
 |t l=>
  show Value.tuple _=Value.tuple ((mapL (SA.ren f) l).map (SA.re E)).toArray;rw [abb,List.map_map];congr 2
  exact zae fun x _=>SA.ren_re E f x
 |u=>rfl
theorem SC.ren_ok{n:Nat}{f:Nat->Nat}(hf:∀i,f i<n->i<n){x:SC}(h:(x.ren f).ok n):x.ok n:=by
 cases x with
 |fn g cs=>
  have h':∀j∈mapL f cs,j<n:=h;rw [abb]at h';exact fun j hj=>hf j (h' _ (List.mem_map_of_mem hj))
 |p i o=>exact hf _ h
 |sl i b m c=>exact hf _ h
 |y i=>exact hf _ h
 |m i=>exact hf _ h
 |z i b d o=>exact hf _ h
 |_=>trivial
theorem scs_rok{n:Nat}{f:Nat->Nat}(hf:∀i,f i<n->i<n){l:List SC}(h:∀x∈mapL (SC.ren f) l,x.ok n):∀x∈l,x.ok n:=by
 rw [abb]at h;exact fun x hx=>SC.ren_ok hf (h _ (List.mem_map_of_mem hx))
theorem SA.ren_ok{n:Nat}{f:Nat->Nat}(hf:∀i,f i<n->i<n){x:SA}(h:(x.ren f).ok n):x.ok n:=by
 cases x with
 |c x=>exact SC.ren_ok hf h
 |a l=>exact scs_rok hf h
theorem SV.ren_ok{n:Nat}{f:Nat->Nat}(hf:∀i,f i<n->i<n){x:SV}(h:(x.ren f).ok n):x.ok n:=by
 cases x with
 |c x=>exact SC.ren_ok hf h
 |a l=>exact scs_rok hf h
 |t l=>
  have h':∀x∈mapL (SA.ren f) l,x.ok n:=h;rw [abb]at h';exact fun x hx=>SA.ren_ok hf (h' _ (List.mem_map_of_mem hx))
 |u=>trivial
theorem HB.ren_ok{n:Nat}{f:Nat->Nat}(hf:∀i,f i<n->i<n){b:HB}(hl:∀x1 x2 x3 x4 x5 x6 x7,b≠.lp x1 x2 x3 x4 x5 x6 x7)(h:(b.ren f).ok n):b.ok n:=by
 cases b with
 |cl t md xs=>exact scs_rok hf h
 |lp x1 x2 x3 x4 x5 x6 x7=>exact(hl _ _ _ _ _ _ _ rfl).elim
 |mp es=>
  have h':∀p∈mapL (fun p:SC×SC=>(p.1.ren f,p.2.ren f)) es,p.1.ok n/\p.2.ok n:=h;rw [abb]at h';exact fun p hp=>⟨SC.ren_ok hf (h' _ (List.mem_map_of_mem hp)).1,SC.ren_ok hf (h' _ (List.mem_map_of_mem hp)).2⟩
 |it l x pos=>trivial
 |df=>trivial
 |gn=>trivial
theorem resOf_ren(E:En)(f:Nat->Nat)(i:Nat){b:HB}(hl:∀x1 x2 x3 x4 x5 x6 x7,b≠.lp x1 x2 x3 x4 x5 x6 x7):resOf (fun i=>E (f i)) i b=resOf E (f i) (b.ren f):=by
 cases b with
 |cl t md xs=>show cres _ _ _ _ _=cres _ _ _ _ _;rw [scs_ren]
 |lp x1 x2 x3 x4 x5 x6 x7=>exact(hl _ _ _ _ _ _ _ rfl).elim
 |mp es=>
  show mpres _ _=mpres _ ((mapL (fun p:SC×SC=>(p.1.ren f,p.2.ren f)) es).map _);rw [abb,List.map_map];congr 1
  exact zae fun p _=>by simp only [Function.comp,SC.ren_re]
 |it l x pos=>rfl
 |df=>rfl
 |gn=>rfl
theorem nolp_ren{f:Nat->Nat}{b b':HB}(h:HB.eqb (b.ren f) b'=true):∀x1 x2 x3 x4 x5 x6 x7,b≠.lp x1 x2 x3 x4 x5 x6 x7:=by
 rintro x1 x2 x3 x4 x5 x6 x7 rfl
 cases b'<;>cases h
theorem tr_get{α:Type}{q:α->α->Bool}(p:Pk):∀{t t':Tr α},Tr.eqb q t t'=true->oeqb q (t.getP p) (t'.getP p)=true:=by
 have e:∀{t t':Tr α},Tr.eqb q t t'=true->oeqb q t.V t'.V=true/\Tr.eqb q t.L t'.L=true/\Tr.eqb q t.R t'.R=true:=by
  intro t t' h;cases t with
  |e=>cases t' with
   |e=>exact⟨rfl,rfl,rfl⟩
   |n=>cases h
  |n l v r=>cases t' with
   |e=>cases h
   |n l' v' r'=>
    obtain⟨h1,h2⟩:=bb2 (show bi (oeqb q v v') (bi (Tr.eqb q l l') (Tr.eqb q r r') false) false=true from h);obtain⟨h2,h3⟩:=bb2 h2;exact⟨h1,h2,h3⟩
 induction p with
 |_=>intro t t' h;first|exact(e h).1|(rename_i ih;first|exact ih (e h).2.1|exact ih (e h).2.2)
theorem tr_get'{α:Type}{q:α->α->Bool}{t t':Tr α}(h:Tr.eqb q t t'=true)(k:Nat):oeqb q (t.get k) (t'.get k)=true:=tr_get _ h
section
variable {C : Cx} {Gp : World -> Prop} {m : M} {S S' : T} {w0 w : World} {E E' : En} {K : Ks} {H : Hs}
theorem swap_at{a p q:Nat}(h:T.eqr a p q S S'=true)(h':At C Gp m S' w0 E w)(hm:Mok a m):
  At C Gp m S.rb w0 (fun i=>E (rot a p q i)) w/\rF (fun i=>E (rot a p q i)) S.F=rF E S'.F/\aau (fun i=>E (rot a p q i)) m S.D=aau E m S'.D/\Ag a E (fun i=>E (rot a p q i)):=by
 obtain⟨h1,h⟩:=bb2 h;obtain⟨h2,h⟩:=bb2 h;obtain⟨h3,h⟩:=bb2 h;obtain⟨h4,h⟩:=bb2 h;obtain⟨h5,h6⟩:=bb2 h;have h1:=nb h1;have h2:a+p+q<=S.H.nx:=by rw [aac]at h2;exact h2
 have h3:S.D=S'.D:=oeq_ok h3;have hf:∀i,rot a p q i<S.H.nx->i<S.H.nx:=by
  intro i hi;rw [rot_eq]at hi;by_cases e1:i<a
  ·omega
  ·rw [if_neg e1]at hi;by_cases e2:i<a+p
   ·omega
   ·rw [if_neg e2]at hi;by_cases e3:i<a+p+q
    ·omega
    ·rw [if_neg e3]at hi;exact hi
 have hag:Ag a E (fun i=>E (rot a p q i)):=by
  intro i hi;show E (rot a p q i)=E i;rw [rot_eq,if_pos hi]
 have hF:∀t,oeqb (fun x y=>SV.eqb (x.ren (rot a p q)) y) (S.F.get t) (S'.F.get t)=true:=tr_get' h5;have hF1:∀t v,S.F.get t=some v->∃v',S'.F.get t=some v'/\v.ren (rot a p q)=v':=by
  intro t v hv
  have:=hF t
  rw [hv]at this;cases hv':S'.F.get t with
  |none=>rw [hv']at this;cases this
  |some v'=>rw [hv']at this;exact⟨v',rfl,sve_ok this⟩
 have hH:∀i,i<S.H.nx->HB.eqb ((hat S.H i).ren (rot a p q)) (hat S'.H (rot a p q i))=true:=by
  intro i hi
  have:=allN_ok h6 i hi
  rwa [hatN_eq,hatN_eq]at this
 have hd:Dok a S.D:=by
  intro r hr;rw [hr]at h4;have h4:zad (r+1) a=true:=h4;rw [aac]at h4;exact h4
 have hrF:rF (fun i=>E (rot a p q i)) S.F=rF E S'.F:=by
  funext t
  unfold rF tv;cases hv:S.F.get t with
  |some v=>
   obtain⟨v',e1,e2⟩:=hF1 t v hv;rw [e1];show v.re _=v'.re E;rw [SV.ren_re,e2]
  |none=>
   have:=hF t
   rw [hv]at this;cases hv':S'.F.get t with
   |none=>rfl
   |some v'=>rw [hv']at this;cases this
 refine⟨⟨⟨?_, ?_, ?_⟩, ?_,h'.gp, ?_, ?_⟩,hrF, ?_,hag⟩
 ·refine h'.inv.hp.perm ?_;have e1:aam (fun i=>E (rot a p q i)) S.rb.H=((List.range S.H.nx).map (rot a p q)).map fun j=>resOf E j (hat S'.H j):=by
   rw [List.map_map];refine zae fun i hi=> ?_
   have hi:i<S.H.nx:=List.mem_range.1 hi;rw [hat_reb hi];show resOf _ i (hat S.H i)=resOf E (rot a p q i) (hat S'.H (rot a p q i));rw [<-hbe_ok (hH i hi)];exact resOf_ren E _ i (nolp_ren (hH i hi))
  rw [e1]
  show((List.range S'.H.nx).map fun j=>resOf E j (hat S'.H j)).Perm _
  refine List.Perm.map _ ?_;rw [<-h1];obtain⟨r,hr⟩:=Nat.exists_eq_add_of_le h2;rw [hr,List.range_eq_range'];have s1:List.range' 0 (a+p+q+r)=List.range' 0 a++(List.range' a p++(List.range' (a+p) q++List.range' (a+p+q) r)):=by
   rw [List.range'_append_1,List.range'_append_1,show a=0+a from by omega];simp only [Nat.zero_add,Nat.add_assoc]
   have:=List.range'_append_1 (s:=0) (m:=a) (n:=p+(q+r))
   simp only [Nat.zero_add]at this;exact this.symm
  have s2:List.range' 0 (a+p+q+r)=List.range' 0 a++(List.range' a q++(List.range' (a+q) p++List.range' (a+p+q) r)):=by
   have e:a+p+q=a+q+p:=by omega
   rw [e];rw [List.range'_append_1,List.range'_append_1]
   have:=List.range'_append_1 (s:=0) (m:=a) (n:=q+(p+r))
   simp only [Nat.zero_add]at this;rw [this];congr 1
   omega
  rw [s1,zav,zav,zav];rw [map_rot _ 0 0 a (fun i hi=>by rw [rot_eq,if_pos (by omega)]),map_rot _ a (a+q) p (fun i hi=>by rw [rot_eq,if_neg (by omega),if_pos (by omega)];omega),
   map_rot _ (a+p) a q (fun i hi=>by rw [rot_eq,if_neg (by omega),if_neg (by omega),if_pos (by omega)];omega),map_rot _ (a+p+q) (a+p+q) r (fun i hi=>by rw [rot_eq,if_neg (by omega),if_neg (by omega),if_neg (by omega)])]
  rw [<-s1,s2];refine List.Perm.append_left _ ?_;rw [<-List.append_assoc,<-List.append_assoc];exact List.Perm.append_right _ List.perm_append_comm
 ·exact fun i b hb=>(rb_get hb).1
 ·intro i b hb;obtain⟨hi,rfl⟩:=rb_get hb
  show(hat S.H i).ok S.H.nx
  refine HB.ren_ok hf (nolp_ren (hH i hi)) ?_;rw [hbe_ok (hH i hi),h1];exact h'.inv.hatok _
 ·intro t v hv;obtain⟨v',e1,e2⟩:=hF1 t v hv;refine SV.ren_ok hf ?_;rw [e2,h1];exact h'.fok t v' e1
 ·exact Mok.up (show a<=S.H.nx by omega) hm
 ·show Dok S.H.nx S.D;rw [h3,h1];exact h'.d
 ·rw [mdOf_ext hag hm hd,h3]
theorem rb_at(h:At C Gp m S w0 E w):At C Gp m S.rb w0 E w:=by
 refine⟨⟨?_,fun i b hb=>(rb_get hb).1, ?_⟩,h.fok,h.gp,h.m,h.d⟩
 ·have e:aam E S.rb.H=aam E S.H:=zae fun i hi=>by rw [hat_reb (S:=S) (List.mem_range.1 hi)]
  rw [e];exact h.inv.hp
 ·intro i b hb;obtain⟨hi,rfl⟩:=rb_get hb;exact h.inv.hatok i
end
open Go.Wk
open List renaming mem_cons_of_mem -> zag, mem_cons_self -> zah
open Nat renaming blt -> zak, le_refl -> zab, le_trans -> zap
open Option renaming rec -> zaa
section
variable {C : Cx} {Gp : World -> Prop} {m : M} {S S' : T} {w0 w : World} {E E' : En} {K : Ks} {H : Hs}
theorem gpass_ok{ops:Array Oper}{o:Oper}{g:Bool}{n:Md}(hn:n.n=m.n)(h:gpass m ops S o=some g):Region.wanted o (yielded ops (fr n (rF E S.F)).tmps)=g:=by
 unfold gpass at h;cases hg:o.guard with
 |none=>
  rw [hg]at h;have e:true=g:=Option.some.inj h;subst e;simp [Region.wanted,hg]
 |some q=>
  obtain⟨gi,b⟩:=q;rw [hg]at h;obtain⟨dg,h1,h⟩:=aaa h;obtain⟨h2,h⟩:=aab h;have e1:oget (S.F.get dg)=tv S.F dg:=tv_rec S.F dg;rw [e1]at h;have h3:zak dg n.n=true:=by rw [hn];exact h2
  unfold Region.wanted;simp only [hg,yielded_fr (n:=n) ops gi dg h1 h3];rcases gval_ok h E with⟨hb,rfl⟩|⟨hb,rfl⟩|⟨hb,rfl⟩
  ·have:rF E S.F dg=.bool b:=hb
   rw [this];simp
  ·have:rF E S.F dg=.bool (!b):=hb
   rw [this];cases b<;>rfl
  ·have:rF E S.F dg=undef:=by
    show(tv S.F dg).re E=_
    rw [hb];rfl
   rw [this];simp [undef]
theorem yi_no{ops:Array Oper}{o:Oper}{n:Md}{Si:World->Prop}(hn:n.n=m.n)(h:gpass m ops S o=some false):YieldsIf C.P ops Si o undef (fr n (rF E S.F)):=.inr ⟨gpass_ok hn h,rfl⟩
theorem yi_yes{ops:Array Oper}{o:Oper}{n:Md}{Si:World->Prop}{v:Value}(hn:n.n=m.n)(h:gpass m ops S o=some true)(hr:∀w,Si w->(execOp (evn n (rF E S.F)) o).run C.P w=.ok (.value v) w):
  YieldsIf C.P ops Si o v (fr n (rF E S.F)):=.inl ⟨gpass_ok hn h,fun w hw=>by rw [aar];exact hr w hw⟩
theorem fact_at(hC:Cok C Gp){E0:En}{n0:Nat}{f:Fa}(h:At C Gp m S w0 E w)(ha:Ag n0 E0 E)(hx:f.x.ok n0)(hv:f.v.ok n0){v:SV}(hl:loadC C S f.t f.x=some v)(e:f.v=v):fact C.P E0 f w:=by
 obtain⟨A,h1,h2,h3⟩:=loadC_ok (h.sd hC) hl;subst e;exact⟨A,by rw [<-SC.ext ha hx];exact h1,by rw [<-SV.ext ha hv];exact h2⟩
theorem fact_kept(hC:Cok C Gp){E0:En}{n0 j:Nat}{f:Fa}{w':World}(h:At C Gp m S w0 E w')(ha:Ag n0 E0 E)(hx:f.x.ok n0)(hv:f.v.ok n0)(hc:chk1 C j S.H f=true):Keep f.D (fact C.P E0 f) j w w':=by
 cases hD:f.D.contains j with
 |true=>exact Keep.out hD
 |false=>
  have hc':bi (f.D.contains j) true (zaa false (fun v=>SV.eqb f.v v) (loadC C ⟨.e,S.H,none⟩ f.t f.x))=true:=hc;rw [hD]at hc';have hc':(zaa false (fun v=>SV.eqb f.v v) (loadC C ⟨.e,S.H,none⟩ f.t f.x):Bool)=true:=hc';have e1:loadC C ⟨.e,S.H,none⟩ f.t f.x=loadC C S f.t f.x:=rfl;rw [e1]at hc';cases hl:loadC C S f.t f.x with
  |none=>rw [hl]at hc';cases hc'
  |some v=>
   rw [hl]at hc';exact Keep.new (fact_at hC h ha hx hv hl (sve_ok hc'))
structure Fin (C:Cx) (n0:Nat) (FS:List Fa):Prop where
 x:∀f∈FS,f.x.ok n0
 v:∀f∈FS,f.v.ok n0
def Sn(C:Cx)(FS:List Fa)(sn:List (Nat×Hs)):Prop:=∀p∈sn,∀f∈FS,chk1 C p.1 p.2 f=true
theorem chk_ok{n0:Nat}{fs:List Fa}{sn:List (Nat×Hs)}(h:chk C n0 fs sn=true):Fin C n0 fs/\Sn C fs sn:=by
 obtain⟨h1,h2⟩:=bb2 h;refine⟨⟨fun f hf=> ?_,fun f hf=> ?_⟩,fun p hp f hf=> ?_⟩
 ·exact sc_okb (bb2 (List.all_eq_true.1 h1 f hf)).1
 ·exact sv_okb (bb2 (List.all_eq_true.1 h1 f hf)).2
 ·exact List.all_eq_true.1 (List.all_eq_true.1 h2 p hp) f hf
theorem srel_at(hC:Cok C Gp){E0:En}{n0 j:Nat}{FS:List Fa}(hF:Fin C n0 FS){w':World}(h:At C Gp m S w0 E w')(ha:Ag n0 E0 E)(hc:∀f∈FS,chk1 C j S.H f=true):Srel C.P E0 FS j w w':=
 fun f hf=>fact_kept hC h ha (hF.x f hf) (hF.v f hf) (hc f hf)
theorem mem_lapp{α:Type}{l r:List α}{x:α}:x∈lapp l r↔x∈l\/x∈r:=by rw [abf];exact List.mem_append
theorem eqs_ok{a p q:Nat}{S S':T}(h:T.eqs a p q S S'=true):∃p' q',T.eqr a p' q' S S'=true:=by
 unfold T.eqs at h;cases e:T.eqr a (Nat.sub (Nat.sub S.H.nx a) q) q S S' with
 |true=>exact⟨_,_,e⟩
 |false=>rw [e]at h;exact⟨_,_,h⟩
theorem drawP_ok(hC:Cok C Gp)(hK:KsOk C Gp K){ops:Array Oper}{k n0:Nat}{E0:En}{FS:List Fa}(hs:aas ops k=true)(hF:Fin C n0 FS){Q:Exit->Act->World->Prop}:
  ∀{f:Nat} {l:List Bool} {pl:Pl},Fit ops k f l pl->∀(S:T) (r:Dr),drawP C K m ops pl S=some r->(∀x∈r.2.1,x∈FS)->Sn C FS r.2.2->
   ∀(E:En) (w:World),At C Gp m S w0 E w->Ag n0 E0 E->n0<=S.H.nx->
   Then C Gp m S r.1 w0 E (fun E' w'=>Go.Wk.W C.P (aau E' m r.1.D) ops Q (ops.toList.drop k) (rF E' r.1.F) w')->
   Go.Wk.RO C.P (aau E m S.D) ops Q (Srel C.P E0 FS) k f l (rF E S.F) w:=by
 intro f l pl hfit;induction hfit with
 | @dn l h=>
  intro S r hv hfs hsn E w h0 ha hn hk;have e:(S,([]:List Fa),([]:List (Nat×Hs)))=r:=Option.some.inj hv;subst e;exact rO_zero h (hk E w (Ag.refl _ _) (zab _) h0)
 | @pu f l i d o n h1 h2 h3 h4 h5 h6 ih=>
  intro S r hv hfs hsn E w h0 ha hn hk;obtain⟨g,hg,hv⟩:=aaa (show(ob (gpass m ops S o) fun g=>bi g (ob (valB C m S o) fun v=>drawP C K m ops n ⟨S.F.set d v,S.H,S.D⟩) (drawP C K m ops n ⟨S.F.set d .u,S.H,S.D⟩))=some r from hv);cases g with
  |false=>
   have hat:=at_set h0 (Ag.refl _ _) (zab _) h0.inv d (v:=.u) trivial
   have:=ih ⟨S.F.set d .u,S.H,S.D⟩ r hv hfs hsn E w hat ha hn hk
   simp only [rF_set]at this;exact rO_take (kn:=m.n) (kD:=dl E S.D) (ro:=ro E m) _ i d undef o h1 h2 hs h3 h4 h5 rfl (yi_no (n:=(aau E m S.D)) rfl hg) this
  |true=>
   obtain⟨v,hv1,hv⟩:=aaa (show(ob (valB C m S o) fun v=>drawP C K m ops n ⟨S.F.set d v,S.H,S.D⟩)=some r from hv);have hsd:Sd C m S (aau E m S.D) w0 E w:=⟨rfl,h0.inv,h0.fok,hC.g h0.gp⟩
   have hb:=fun w=>bare_ok hsd hv1 w
   have hat:=at_set h0 (Ag.refl _ _) (zab _) h0.inv d (v:=v) (hb w).2
   have:=ih ⟨S.F.set d v,S.H,S.D⟩ r hv hfs hsn E w hat ha hn hk
   simp only [rF_set]at this;exact rO_take (kn:=m.n) (kD:=dl E S.D) (ro:=ro E m) _ i d (v.re E) o h1 h2 hs h3 h4 h5 rfl (yi_yes (n:=(aau E m S.D)) rfl hg fun w _=>(hb w).1) this
 | @ld f l i d o n D h1 h2 h3 h4 h5 hD h6 ih=>
  intro S r hv hfs hsn E w h0 ha hn hk;obtain⟨g,hg,hv⟩:=aaa (show(ob (gpass m ops S o) fun g=>bi g (ob (ldOf o.op) fun q=>ob (evC m S q.2) fun y=>ob (loadC C S q.1 y) fun v=>ob (drawP C K m ops n ⟨S.F.set d v,S.H,S.D⟩) fun p=>some (p.1,(⟨D,y,q.1,v⟩:Fa)::p.2.1,p.2.2)) (drawP C K m ops n ⟨S.F.set d .u,S.H,S.D⟩))=some r from hv);cases g with
  |false=>
   have hat:=at_set h0 (Ag.refl _ _) (zab _) h0.inv d (v:=.u) trivial
   have:=ih ⟨S.F.set d .u,S.H,S.D⟩ r hv hfs hsn E w hat ha hn hk
   simp only [rF_set]at this;exact rO_take (kn:=m.n) (kD:=dl E S.D) (ro:=ro E m) _ i d undef o h1 h2 hs h3 h4 h5 rfl (yi_no (n:=(aau E m S.D)) rfl hg) this
  |true=>
   obtain⟨q,q1,hv⟩:=aaa (show(ob (ldOf o.op) fun q=>ob (evC m S q.2) fun y=>ob (loadC C S q.1 y) fun v=>ob (drawP C K m ops n ⟨S.F.set d v,S.H,S.D⟩) fun p=>some (p.1,(⟨D,y,q.1,v⟩:Fa)::p.2.1,p.2.2))=some r from hv);obtain⟨y,q2,hv⟩:=aaa hv;obtain⟨v,q3,hv⟩:=aaa hv;obtain⟨p,q4,hv⟩:=aaa hv;cases hv
   have hmem:(⟨D,y,q.1,v⟩:Fa)∈FS:=hfs _ zah;have hsd:Sd C m S (aau E m S.D) w0 E w:=⟨rfl,h0.inv,h0.fok,hC.g h0.gp⟩
   obtain⟨A,l1,l2,l3⟩:=loadC_ok hsd q3;have hx:=(aaj hsd q2).1;have hat:=at_set h0 (Ag.refl _ _) (zab _) h0.inv d (v:=v) l3
   have:=ih ⟨S.F.set d v,S.H,S.D⟩ p q4 (fun x hx=>hfs x (zag _ hx)) hsn E w hat ha hn hk
   simp only [rF_set]at this;refine rO_takeS (kn:=m.n) (kD:=dl E S.D) (ro:=ro E m) (Si:=fact C.P E0 ⟨D,y,q.1,v⟩) _ i d (v.re E) D (fun j w w' h=>h _ hmem) o h1 h2 hs hD h3 h4 h5 rfl (yi_yes (n:=(aau E m S.D)) rfl hg ?_) (fact_at hC h0 ha (hF.x _ hmem) (hF.v _ hmem) q3 rfl) this;rintro w' ⟨A',f1,f2⟩
   have f1':y.re E=.pointer (some A'):=by rw [SC.ext ha (hF.x _ hmem)];exact f1
   rw [f1']at hx;have f2':(loadVar q.1 A').run C.P w'=.ok (v.re E) w':=by rw [SV.ext ha (hF.v _ hmem)];exact f2
   have ho:=ldOf_ok q1;unfold execOp;rw [ho];simp [hx,Instr.loadAt,Instr.sureAddr,f2']
 | @on f l i o n h1 h2 h5 h6 ih=>
  intro S r hv hfs hsn E w h0 ha hn hk;obtain⟨S1,q1,hv⟩:=aaa (show(ob (opG C K m ops S o) fun S1=>ob (drawP C K m ops n S1) fun p=>some (p.1,p.2.1,(i,S1.H)::p.2.2))=some r from hv);obtain⟨p,q2,hv⟩:=aaa hv;cases hv
  have hsn1:=hsn _ zah;refine rO_one1 (kn:=m.n) (kD:=dl E S.D) (ro:=ro E m) _ i o h1 h2 h5 rfl ?_;refine opG_wd hC hK h0 q1 [] _ ?_;intro E1 w1 a1 n1 at1;refine w_nil ?_;have hd:=opG_D q1;have hr:=ih S1 p q2 hfs (fun x hx=>hsn x (zag _ hx)) E1 w1 at1 (ha.trans a1 hn) (zap hn n1) (aba hk a1 n1);rw [hd,mdOf_ext a1 h0.m h0.d]at hr;exact rO_next (kn:=m.n) (kD:=dl E S.D) (ro:=ro E m) (srel_at hC hF at1 (ha.trans a1 hn) hsn1) hr
 | @tw f l i j o o' n n' h1 h1' h2 h5 h5' h6 h6' ih ih'=>
  intro S r hv hfs hsn E w h0 ha hn hk;obtain⟨S1,q1,hv⟩:=aaa (show(ob (opG C K m ops S o) fun S1=>ob (drawP C K m ops n S1) fun p=>ob (opG C K m ops S o') fun S2=>ob (drawP C K m ops n' S2) fun p'=>
   bi (p.1.eqb p'.1) (some (p.1,lapp p.2.1 p'.2.1,(i,S1.H)::(j,S2.H)::lapp p.2.2 p'.2.2))
   (bi (T.eqs S.H.nx (Nat.sub S1.H.nx S.H.nx) (Nat.sub S2.H.nx S.H.nx) p.1 p'.1) (some (p.1.rb,lapp p.2.1 p'.2.1,(i,S1.H)::(j,S2.H)::lapp p.2.2 p'.2.2)) none))=some r from hv)
  obtain⟨p,q2,hv⟩:=aaa hv;obtain⟨S2,q1',hv⟩:=aaa hv;obtain⟨p',q2',hv⟩:=aaa hv;obtain⟨r1,hr0,hk1,hk2⟩:∃r1,r=(r1,lapp p.2.1 p'.2.1,(i,S1.H)::(j,S2.H)::lapp p.2.2 p'.2.2)/\
    Then C Gp m S p.1 w0 E (fun E' w'=>Go.Wk.W C.P (aau E' m p.1.D) ops Q (ops.toList.drop k) (rF E' p.1.F) w')/\
    Then C Gp m S p'.1 w0 E (fun E' w'=>Go.Wk.W C.P (aau E' m p'.1.D) ops Q (ops.toList.drop k) (rF E' p'.1.F) w'):=by
   cases he:p.1.eqb p'.1 with
   |true=>
    rw [he]at hv;cases hv
    have e:p.1=p'.1:=te_ok he;exact⟨_,rfl,hk,by rw [<-e];exact hk⟩
   |false=>
    rw [he]at hv;obtain⟨q3,hv⟩:=aab (show bi (T.eqs S.H.nx (Nat.sub S1.H.nx S.H.nx) (Nat.sub S2.H.nx S.H.nx) p.1 p'.1) (some (p.1.rb,lapp p.2.1 p'.2.1,(i,S1.H)::(j,S2.H)::lapp p.2.2 p'.2.2)) none=some r from hv);cases hv
    obtain⟨_,_,q3⟩:=eqs_ok q3;refine⟨_,rfl,fun E' w' ha' hn' hat=>hk E' w' ha' hn' (rb_at hat),fun E' w' ha' hn' hat=> ?_⟩
    obtain⟨s1,s2,s3,s4⟩:=swap_at q3 hat h0.m;have hn2:S.H.nx<=p.1.H.nx:=by
     have:=nb (bb2 q3).1
     omega
    have:=hk _ w' (ha'.trans s4 (zab _)) hn2 s1
    have this:Go.Wk.W C.P (aau _ m p.1.D) ops Q (ops.toList.drop k) (rF _ p.1.F) w':=this;rw [s2,s3]at this;exact this
  subst hr0;have hsn1:=hsn _ zah;have hsn2:=hsn _ (zag _ zah);refine rO_one2 (kn:=m.n) (kD:=dl E S.D) (ro:=ro E m) _ _ i j o o' h1 h1' h2 h5 h5' rfl rfl ?_ ?_
  ·refine opG_wd hC hK h0 q1 [] _ ?_;intro E1 w1 a1 n1 at1;refine w_nil ?_;have hd:=opG_D q1;have hr:=ih S1 p q2 (fun x hx=>hfs x (mem_lapp.2 (.inl hx))) (fun x hx=>hsn x (zag _ (zag _ (mem_lapp.2 (.inl hx))))) E1 w1 at1 (ha.trans a1 hn) (zap hn n1) (aba hk1 a1 n1);rw [hd,mdOf_ext a1 h0.m h0.d]at hr;exact rO_next (kn:=m.n) (kD:=dl E S.D) (ro:=ro E m) (srel_at hC hF at1 (ha.trans a1 hn) hsn1) hr
  ·refine opG_wd hC hK h0 q1' [] _ ?_;intro E1 w1 a1 n1 at1;refine w_nil ?_;have hd:=opG_D q1';have hr:=ih' S2 p' q2' (fun x hx=>hfs x (mem_lapp.2 (.inr hx))) (fun x hx=>hsn x (zag _ (zag _ (mem_lapp.2 (.inr hx))))) E1 w1 at1 (ha.trans a1 hn) (zap hn n1) (aba hk2 a1 n1);rw [hd,mdOf_ext a1 h0.m h0.d]at hr;exact rO_next (kn:=m.n) (kD:=dl E S.D) (ro:=ro E m) (srel_at hC hF at1 (ha.trans a1 hn) hsn2) hr
theorem draw_ok(hC:Cok C Gp)(hK:KsOk C Gp K){id:Nat}{ops:Array Oper}(m:M)(S S':T)(hv:drawE C K m ops S=some S')(w0:World)(E:En)(w:World)(Q:Exit->Act->World->Prop)(h:At C Gp m S w0 E w)(hq:NoP Q)
  (hk:Then C Gp m S S' w0 E (fun E' w'=>Q .normal (fr (aau E' m S'.D) (rF E' S'.F)) w')):Go.Wk.C C.P (aau E m S.D) Q (.region id ops true) (rF E S.F) w:=by
 obtain⟨h1,hv⟩:=aab hv;obtain⟨p,h2,hv⟩:=aaa hv;obtain⟨r,h3,hv⟩:=aaa hv;obtain⟨h4,h5⟩:=aab hv;obtain⟨k,pl⟩:=p;obtain⟨hs,hfit⟩:=planOf_ok h2;obtain⟨hF,hS⟩:=chk_ok h4;obtain⟨l⟩:=ops;have hD:(ro E m).isSome=true->NoD l.toArray:=by
  intro hm j o c hj hop;have h1':noDf l.toArray=true:=by
   obtain⟨mn,mm⟩:=m;cases mm with
   |none=>cases hm
   |some x=>exact h1
  have h6:=List.all_eq_true.1 h1' o (by
   have:=List.mem_of_getElem? (show l[j]? =some o by simpa using hj)
   simpa using this)
  rw [hop]at h6;cases h6
 refine c_drawnO (kn:=m.n) (kD:=dl E S.D) (ro:=ro E m) k (Srel C.P E r.2.1) _ (srel_refl _ _ _) hC.mo hs h.inv.hp rfl hq hD fun w' hH=> ?_
 have hat:At C Gp m S w0 E w':=⟨⟨hH,h.inv.lt,h.inv.ok⟩,h.fok,h.gp,h.m,h.d⟩
 refine drawP_ok hC hK hs hF hfit S r h3 (fun _ hx=>hx) hS E w' hat (Ag.refl _ _) (zab _) ?_;intro E' w'' a' n' at';have h5':opsE C K m l.toArray (l.drop k) r.1=some S':=by
  rw [<-ldrop_eq];exact h5
 exact opsE_ok hC hK _ r.1 S' E' w'' at' h5' Q (aba hk a' n')
end
open Go.Wk
open List renaming map_cons -> zal, mem_cons_self -> zah
open Nat renaming blt -> zak, le_refl -> zab
section
variable {C : Cx} {Gp : World -> Prop} {m : M} {S S' : T} {w0 w : World} {E E' : En} {K : Ks} {H : Hs}
theorem run_none{c:Code}:abg C Gp (fun m S=>eNone K m S) c:=fun m S e S' hv=>by cases hv
theorem exec_ok(hC:Cok C Gp)(hK:KsOk C Gp K)(c:Code):abg C Gp (fun m S=>exec C c K m S) c:=by
 induction c with
 |skip=>exact run_skip (K:=K) (.inl rfl)
 |region id ops d=>exact run_region hC hK fun m S S' hv w0 E w Q h hq hk=>draw_ok hC hK m S S' hv w0 E w Q h hq hk
 |seq x y hx hy=>exact run_seq hx hy
 |cond c x y hx hy=>exact run_cond hC hx hy
 |block id x hx=>exact run_block hx
 |loop x hx=>exact run_loop hx
 |rangeFunc f ps asg body _ _=>exact run_range (xa:=exec C asg) (xb:=exec C body) hC hK
 |exit id=>exact run_exit (K:=K)
 |scope x hx=>exact run_scope hx
 |label l=>exact run_skip (K:=K) (.inr ⟨l,rfl⟩)
 |goto l=>exact run_none (K:=K)
 |ret=>exact run_ret (K:=K)
 |_=>exact run_none (K:=K)
theorem setL_get:∀(l:List SV) (F:Tr SV) (k t:Nat),(setL F k l).get t=if k<=t/\t<k+l.length then l[t-k]? else F.get t
 |[],F,k,t=>by rw [if_neg (fun h=>by have h1:=h.1;have h2:=h.2;simp at h2;omega)];rfl
 |v::l,F,k,t=>by
  have h:=setL_get l (F.set k v) (k+1) t;have e:setL F k (v::l)=setL (F.set k v) (k+1) l:=rfl;rw [e,h,Tr.get_set];by_cases h1:t=k
  ·subst h1;rw [if_neg (by omega),if_pos rfl,if_pos (by simp)];simp
  ·rw [if_neg h1];by_cases h2:k+1<=t/\t<k+1+l.length
   ·rw [if_pos h2,if_pos (by simp;omega)];obtain⟨j,rfl⟩:∃j,t=k+1+j:=⟨t-(k+1),by omega⟩
    rw [show k+1+j-(k+1)=j by omega,show k+1+j-k=j+1 by omega];rfl
   ·rw [if_neg h2,if_neg (by simp;omega)]
theorem setL_args(E:En)(vs:List SV):rF E (setL .e 0 vs)=argF (vs.map (SV.re E)):=by
 funext t
 unfold rF tv argF;rw [setL_get];by_cases h:0<=t/\t<0+vs.length
 ·rw [if_pos h];have h2:t<vs.length:=by omega
  simp [h2]
 ·rw [if_neg h,Tr.get_e];have h2:vs.length<=t:=by omega
  simp [h2,SV.re]
theorem setL_ok{n:Nat}{vs:List SV}(h:∀x∈vs,x.ok n):Fok n (setL .e 0 vs):=by
 intro t v hv;rw [setL_get]at hv;split at hv
 ·exact h v (List.mem_of_getElem? hv)
 ·rw [Tr.get_e]at hv;cases hv
theorem resE_ok(hC:Cok C Gp)(h:At C Gp m S w0 E w){k:Nat}{n:Md}(hn:n.n=k){x:ResultVar}{a:SA}(hv:resE C ⟨k,none⟩ S x=some a):(Go.Wk.resOf (fr n (rF E S.F)).tmps x).run C.P w=.ok (a.re E) w/\a.ok S.H.nx:=by
 have hsd:Sd C ⟨k,none⟩ S n w0 E w:=⟨hn,h.inv,h.fok,hC.g h.gp⟩
 cases x with
 |tmp t=>
  obtain⟨v,h1,h2⟩:=aaa (show(ob (evO ⟨k,none⟩ S (.tmp t)) SV.sa)=some a from hv);obtain⟨h3,h4⟩:=abh hsd h1;refine⟨?_,SV.sa_ok h2 h4⟩
  have h3':(bif zak t n.n then rF E S.F t else undef)=v.re E:=h3;rw [SV.sa_r h2];simp only [Go.Wk.resOf,fr_get,h3',Sem.run_pure]
 |cell b t=>
  obtain⟨v,h1,h2⟩:=aaa (show(ob (opLoad C ⟨k,none⟩ S t (.tmp b)) SV.sa)=some a from hv);obtain⟨y,h3,h4⟩:=aaa h1;obtain⟨A,l1,l2,l3⟩:=loadC_ok hsd h4;have hx:=(aaj hsd h3).1;rw [l1]at hx;refine⟨?_,SV.sa_ok h2 l3⟩
  have hx':(bif zak b n.n then rF E S.F b else undef)=.pointer (some A):=hx;rw [SV.sa_r h2];simp only [Go.Wk.resOf,fr_get,hx',asAddr,Sem.run_bind,Sem.run_pure,Result.andThen_ok,l2]
theorem resL_ok(hC:Cok C Gp)(h:At C Gp m S w0 E w){k:Nat}{n:Md}(hn:n.n=k):∀{l:List ResultVar} {azq:List SA},resL C ⟨k,none⟩ S l=some azq->
  l.length=azq.length/\(∀(i:Nat) (x:ResultVar) (v:Value),l[i]? =some x->(azq.map (SA.re E))[i]? =some v->(Go.Wk.resOf (fr n (rF E S.F)).tmps x).run C.P w=.ok v w)/\∀a∈azq,a.ok S.H.nx
 |[],azq,hv=>by
  have e:[]=azq:=Option.some.inj hv;subst e;exact⟨rfl,fun i x v h=>by simp at h,fun a h=>by cases h⟩
 |x::l,azq,hv=>by
  obtain⟨a,h1,hv⟩:=aaa hv;obtain⟨q,h2,hv⟩:=aaa hv;cases hv
  obtain⟨r1,r2⟩:=resE_ok hC h hn h1;obtain⟨i1,i2,i3⟩:=resL_ok hC h hn (show resL C ⟨k,none⟩ S l=some q from h2);refine⟨by simp [i1], ?_, ?_⟩
  ·intro i y v hy hv;cases i with
   |zero=>
    simp at hy hv
    subst hy;subst hv;exact r1
   |succ i=>exact i2 i y v (by simpa using hy) (by simpa using hv)
  ·intro b hb;rcases List.mem_cons.1 hb with rfl|hb
   ·exact r2
   ·exact i3 b hb
theorem one_ok{n:Nat}{azq:List SA}(h:∀a∈azq,a.ok n):(oneV azq).ok n:=by
 cases azq with
 |nil=>exact fun x hx=>by cases hx
 |cons a l=>cases l with
  |nil=>exact SA.sv_ok (h a zah)
  |cons b l=>exact h
theorem one_re(E:En)(azq:List SA):(match azq.map (SA.re E)with|[u]=>u|us=>.tuple us.toArray)=(oneV azq).re E:=by
 cases azq with
 |nil=>rfl
 |cons a l=>cases l with
  |nil=>exact(SA.sv_r E a).symm
  |cons b l=>rfl
theorem results_ok(hC:Cok C Gp)(h:At C Gp m S w0 E w){k:Nat}{fn:Func}{azq:List SA}(hv:resL C ⟨k,none⟩ S fn.results.toList=some azq)(D:List Deferred)(r:Option (Option Nat)):
  (results fn (fr ⟨k,D,r⟩ (rF E S.F)).tmps).run C.P w=.ok ((oneV azq).re E) w/\(oneV azq).ok S.H.nx:=by
 obtain⟨h1,h2,h3⟩:=resL_ok hC h (n:=⟨k,D,r⟩) rfl hv;refine⟨?_,one_ok h3⟩
 have hm:=run_mapM (P:=C.P) (w:=w) (Go.Wk.resOf (fr ⟨k,D,r⟩ (rF E S.F)).tmps) fn.results.toList (azq.map (SA.re E)) (by simp [h1]) h2;unfold results;obtain⟨l,hr⟩:∃l:List ResultVar,fn.results=l.toArray:=⟨fn.results.toList,by simp⟩
 rw [hr]at hm⊢;change Sem.run C.P (do let vs<-l.toArray.mapM (Go.Wk.resOf (fr ⟨k,D,r⟩ (rF E S.F)).tmps);pure (if h:vs.size=1 then vs[0]else .tuple vs)) w=_
 simp only [List.mapM_toArray,Sem.run_bind,Sem.run_map];rw [hm];simp only [Result.andThen_ok,Sem.run_pure];rw [<-one_re];congr 1
 generalize azq.map (SA.re E)=vs;cases vs with
 |nil=>simp
 |cons u us=>cases us with
  |nil=>simp
  |cons u' us=>simp
theorem mdF_two(c:Code)(vs:List SV):mdF c vs=none\/mdF c vs=some none:=by
 unfold mdF;cases hasRF c with
 |true=>exact .inr rfl
 |false=>cases anyY vs with
  |true=>exact .inr rfl
  |false=>exact .inl rfl
theorem onX'_some{r:RT}{k:T->Option (SV×Hs)}{v:SV×Hs}(h:runF.onX' r k=some v):∃e S,r=some (e,S)/\(e=.nm\/e=.rt)/\k S=some v:=by
 cases r with
 |none=>cases h
 |some p=>
  obtain⟨e,S⟩:=p;cases e with
  |nm=>exact⟨_,S,rfl,.inl rfl,h⟩
  |rt=>exact⟨_,S,rfl,.inr rfl,h⟩
  |xt id=>cases h
theorem isDf_ok{b:HB}(h:b.isDf=true):b=.df:=by
 cases b<;>first|rfl|cases h
def calm(Q:Exit->Act->World->Prop):Exit->Act->World->Prop
 |.panic _,_,_=>False
 |e,a,w=>Q e a w
theorem calm_le{Q:Exit->Act->World->Prop}:∀e a w,calm Q e a w->Q e a w:=by
 intro e a w h;cases e<;>first|exact h|cases h
theorem calm_np{Q:Exit->Act->World->Prop}:NoP (calm Q):=fun _ _ _ h=>h
theorem C_mono{P:Program}{n:Md}{Q Q':Exit->Act->World->Prop}{c:Code}{F:Nat->Value}{w:World}(hq:∀e a w,Q e a w->Q' e a w)(h:Go.Wk.C P n Q c F w):Go.Wk.C P n Q' c F w:=by
 obtain⟨k,D,ro⟩:=n;unfold Go.Wk.C CC at h⊢;cases ro with
 |none=>exact Code.wp_mono hq h
 |some x=>exact Code.wpIn_mono hq h
theorem body_ok(hC:Cok C Gp)(hK:KsOk C Gp K)(k:Nat):aao C Gp (bodyE C K k) k:=by
 intro vs H v H' hv w0 E w hg inv hok;obtain⟨fn,h1,hv⟩:=aaa hv;obtain⟨c,h2,hv⟩:=aaa hv;obtain⟨h3,hv⟩:=aab hv;have hlen:(vs.map (SV.re E)).length<=fn.ntmps:=by rw [aac,aag]at h3;simpa using h3
 refine⟨⟨fn,c,h1,h2,hC.ng k fn h1⟩, ?_⟩
 obtain⟨e,S,hx,he,hv⟩:=onX'_some hv;obtain⟨hD,hv⟩:=aab hv;obtain⟨S2,hu,hv⟩:=aaa hv;obtain⟨azq,hr,hv⟩:=aaa hv;cases hv
 have hat:At C Gp ⟨fn.ntmps,mdF c vs⟩ ⟨setL .e 0 vs,H,none⟩ w0 E w:=by
  refine⟨inv,setL_ok hok,hg,fun l hl=> ?_,fun r hr=>by cases hr⟩
  rcases mdF_two c vs with h|h
  ·have hl':mdF c vs=some (some l):=hl;rw [h]at hl';cases hl'
  ·have hl':mdF c vs=some (some l):=hl;rw [h]at hl';cases hl'
 rcases mdF_two c vs with hm|hm
 ·rw [hm]at hx hat hD;have hDn:S.D=none:=by
   cases hd:S.D with
   |none=>rfl
   |some d=>rw [hd]at hD;cases hD
  have hS:S=S2:=by
   unfold undf at hu;rw [hDn]at hu;exact Option.some.inj hu
  subst hS;refine enter (k:=fn.ntmps) h1 h2 rfl hlen ?_;rw [<-setL_args];refine exec_ok hC hK c _ _ e S hx w0 E w _ hat np_body ?_;intro E' w' a' n' at';obtain⟨q1,q2⟩:=results_ok hC at' hr [] none;have hres:∃E',Ag H.nx E E'/\H.nx<=S.H.nx/\Inv w0 E' S.H w'/\(oneV azq).ok S.H.nx/\(oneV azq).re E'=(oneV azq).re E':=⟨E',a',n',at'.inv,q2,rfl⟩
  rw [hDn];have hres:∃E'',Ag H.nx E E''/\H.nx<=S.H.nx/\Inv w0 E'' S.H w'/\(oneV azq).ok S.H.nx/\(oneV azq).re E'=(oneV azq).re E'':=⟨E',a',n',at'.inv,q2,rfl⟩
  rcases he with rfl|rfl
  ·exact⟨rfl,_,q1,_,rfl,hres⟩
  ·exact⟨rfl,_,q1,_,rfl,hres⟩
 ·rw [hm]at hx hat;refine enterM (k:=fn.ntmps) h1 h2 rfl hlen ?_;rw [<-setL_args];refine C_mono (Q:=calm (bodyPostM Fence.wide 0 C.P fn fun e w'=>∃v,e=.returned v/\∃E'',Ag H.nx E E''/\H.nx<=S2.H.nx/\Inv w0 E'' S2.H w'/\(oneV azq).ok S2.H.nx/\v=(oneV azq).re E'')) calm_le ?_;refine exec_ok hC hK c _ _ e S hx w0 E w _ hat calm_np ?_;intro E' w' a' n' at'
  suffices hs:bodyPostM Fence.wide 0 C.P fn (fun e w'=>∃v,e=.returned v/\∃E'',Ag H.nx E E''/\H.nx<=S2.H.nx/\Inv w0 E'' S2.H w'/\(oneV azq).ok S2.H.nx/\v=(oneV azq).re E'') .ret (fr (aau E' ⟨fn.ntmps,some none⟩ S.D) (rF E' S.F)) w' by
   rcases he with rfl|rfl
   ·exact m_norm hs
   ·exact hs
  cases hd:S.D with
  |none=>
   have hS:S=S2:=by
    unfold undf at hu;rw [hd]at hu;exact Option.some.inj hu
   subst hS;obtain⟨q1,q2⟩:=results_ok hC at' hr [] none;exact m_res0 ⟨_,q1,E',a',n',at'.inv,q2,rfl⟩
  |some d=>
   unfold undf at hu;rw [hd]at hu;obtain⟨b,hb,hu⟩:=aaa (show(ob (S.H.t.get d) fun b=>bi b.isDf (some (⟨S.F,S.H.upd d .gn,none⟩:T)) none)=some S2 from hu);obtain⟨hb2,hu⟩:=aab hu;cases hu
   obtain rfl:=isDf_ok hb2;have hlt:d<S.H.nx:=at'.inv.lt d _ hb;have hk:(aam E' S.H)[d]? =some (dfr (E' d).1):=at'.inv.at hb;refine m_res1 at'.inv.hp d (E' d).1 hk ?_;intro w2 hp2;have hlen2:d<(aam E' S.H).length:=by rw [aat];exact hlt
   have hp3:=(hp2.front d _ (List.getElem?_set_self hlen2)).tail;rw [List.eraseIdx_set_eq]at hp3;have inv2:Inv w0 E' (S.H.upd d .gn) w2:=at'.inv.upd hlt trivial (Hp.perm (hp_gn hp3) (set_perm _ _ _ hlen2).symm);have at2:At C Gp ⟨fn.ntmps,none⟩ ⟨S.F,S.H.upd d .gn,none⟩ w0 E' w2:=⟨inv2,at'.fok,at'.gp,fun l hl=>(by cases hl),fun r hr=>(by cases hr)⟩
   obtain⟨q1,q2⟩:=results_ok hC at2 hr [] none;exact⟨_,q1,E',a',n',inv2,q2,rfl⟩
theorem sc_pl{x:SC}(h:x.pl=true)(n:Nat)(E E':En):x.ok n/\x.re E=x.re E':=by
 cases x with
 |p i o=>cases h
 |sl i o m c=>cases h
 |y i=>cases h
 |m i=>cases h
 |z i b dd off=>cases h
 |fn f l=>
  cases l with
  |nil=>exact⟨fun i hi=>(by cases hi),rfl⟩
  |cons a l=>cases h
 |_=>exact⟨trivial,rfl⟩
theorem plL_ok{l:List SC}(n:Nat)(E E':En):plL l=true->(∀x∈l,x.ok n)/\l.map (SC.re E)=l.map (SC.re E'):=by
 induction l with
 |nil=>exact fun _=>⟨fun x hx=>(by cases hx),rfl⟩
 |cons x l ih=>
  intro h;obtain⟨h1,h2⟩:=bb2 (show bi x.pl (plL l) false=true from h);obtain⟨i1,i2⟩:=ih h2;obtain⟨j1,j2⟩:=sc_pl h1 n E E';refine⟨fun y hy=> ?_,by rw [zal,zal,i2,j2]⟩
  rcases List.mem_cons.1 hy with rfl|hy
  ·exact j1
  ·exact i1 y hy
theorem sa_pl{x:SA}(h:x.pl=true)(n:Nat)(E E':En):x.ok n/\x.re E=x.re E':=by
 cases x with
 |c x=>exact sc_pl h n E E'
 |a l=>obtain⟨h1,h2⟩:=plL_ok n E E' (show plL l=true from h);exact⟨h1,by simp only [SA.re];rw [h2]⟩
theorem plT_ok{l:List SA}(n:Nat)(E E':En):plT l=true->(∀x∈l,x.ok n)/\l.map (SA.re E)=l.map (SA.re E'):=by
 induction l with
 |nil=>exact fun _=>⟨fun x hx=>(by cases hx),rfl⟩
 |cons x l ih=>
  intro h;obtain⟨h1,h2⟩:=bb2 (show bi x.pl (plT l) false=true from h);obtain⟨i1,i2⟩:=ih h2;obtain⟨j1,j2⟩:=sa_pl h1 n E E';refine⟨fun y hy=> ?_,by rw [zal,zal,i2,j2]⟩
  rcases List.mem_cons.1 hy with rfl|hy
  ·exact j1
  ·exact i1 y hy
theorem sv_pl{x:SV}(h:x.pl=true)(n:Nat)(E E':En):x.ok n/\x.re E=x.re E':=by
 cases x with
 |c x=>exact sc_pl h n E E'
 |a l=>obtain⟨h1,h2⟩:=plL_ok n E E' (show plL l=true from h);exact⟨h1,by simp only [SV.re];rw [h2]⟩
 |t l=>obtain⟨h1,h2⟩:=plT_ok n E E' (show plT l=true from h);exact⟨h1,by simp only [SV.re];rw [h2]⟩
 |u=>exact⟨trivial,rfl⟩
theorem plV_ok{l:List SV}(n:Nat)(h:plV l=true):∀x∈l,x.ok n:=by
 induction l with
 |nil=>exact fun x hx=>by cases hx
 |cons x l ih=>
  obtain⟨h1,h2⟩:=bb2 (show bi x.pl (plV l) false=true from h);intro y hy;rcases List.mem_cons.1 hy with rfl|hy
  ·exact(sv_pl h1 n (fun _=>(0,0)) (fun _=>(0,0))).1
  ·exact ih h2 y hy
def Xok(C:Cx)(Gp:World->Prop):Prop:=∀k f,C.X k=some f->aao C Gp f k
theorem callK_ok(hC:Cok C Gp)(hX:Xok C Gp)(hK:KsOk C Gp K)(k:Nat):aao C Gp (callK C K k) k:=by
 intro vs H v H' hv w0 E w hg inv hok;unfold callK at hv;cases hx:C.X k with
 |some f=>
  rw [hx]at hv;exact hX k f hx vs H v H' hv w0 E w hg inv hok
 |none=>
  rw [hx]at hv;have hv:bi (C.pure k) (bi (plV vs) (ob (bodyE C K k vs H0) fun r=>bi r.1.pl (some (r.1,H)) none) none) (bodyE C K k vs H)=some (v,H'):=hv;rw [aaf]at hv;split at hv
  ·obtain⟨hp,hv⟩:=aab hv;obtain⟨r,h1,hv⟩:=aaa hv;obtain⟨h2,hv⟩:=aab hv;cases hv
   obtain⟨hE,hc⟩:=body_ok hC hK k vs H0 r.1 r.2 h1 w E w (hC.gp hg inv.hp) (inv_bare E 0 w) (plV_ok 0 hp);refine⟨hE,CR.mono hc ?_⟩
   rintro V w' ⟨E',g1,g2,g3,g4,rfl⟩
   exact⟨E,Ag.refl _ _,zab _,⟨inv.hp.call g3.hp.nil,inv.lt,inv.ok⟩,(sv_pl h2 _ E E).1,(sv_pl h2 0 E' E).2⟩
  ·exact body_ok hC hK k vs H v H' hv w0 E w hg inv hok
theorem lev_ok(hC:Cok C Gp)(hX:Xok C Gp):∀n,KsOk C Gp (lev C n)
 |0=>⟨fun k vs H v H' hv=>(by cases hv),fun c m S e S' hv=>(by cases hv)⟩
 |n+1=>⟨fun k=>callK_ok hC hX (lev_ok hC hX n) k,fun c=>exec_ok hC (lev_ok hC hX n) c⟩
theorem run_says(hC:Cok C Gp)(hX:Xok C Gp){n k:Nat}{vs:List SV}{v:SV}{H':Hs}(h:(lev C n).call k vs H0=some (v,H'))(hp:plV vs=true)(hp':v.pl=true)(hg:Gp w)(E:En):
  Enters C.P k/\CR C.P k (vs.map (SV.re E)) w fun V w'=>V=v.re E/\Hp w [] [] w':=by
 obtain⟨hE,hc⟩:=(lev_ok hC hX n).call k vs H0 v H' h w E w hg (inv_bare E 0 w) (plV_ok 0 hp);refine⟨hE,CR.mono hc ?_⟩
 rintro V w' ⟨E',g1,g2,g3,g4,rfl⟩
 exact⟨(sv_pl hp' 0 E' E).2,g3.hp.nil⟩
end
open Go.Wk Go.Px
open List renaming length_map -> zaf, map_cons -> zal, mem_cons_of_mem -> zag, mem_cons_self -> zah, rec -> zai
open Nat renaming add -> zaj, beq -> zac, ble -> zad, le_refl -> zab, mod -> zaq
open Option renaming rec -> zaa
open UInt8 renaming ofNat -> zan
theorem cvc_pl{v:Value}{x:SC}(h:cvc v=some x):x.pl=true:=by
 unfold cvc at h;split at h
 all_goals first|(cases h;rfl)|(obtain⟨_,h⟩:=aab h;cases h;rfl)|cases h
theorem cvs_pl:∀{vs:List Value} {l:List SC},cvs vs=some l->plL l=true
 |[],l,h=>by cases h;rfl
 |v::vs,l,h=>by
  obtain⟨x,h1,h⟩:=aaa h;obtain⟨xs,h2,h⟩:=aaa h;cases h
  show bi x.pl (plL xs) false=true;rw [cvc_pl h1,cvs_pl h2];rfl
theorem cv_pl{v:Value}{x:SV}(h:cv v=some x):x.pl=true:=by
 unfold cv at h;split at h
 ·obtain⟨xs,h1,h⟩:=aaa h;cases h
  exact cvs_pl h1
 ·obtain⟨y,h1,h⟩:=aaa h;cases h
  exact cvc_pl h1
noncomputable def cvl(l:List Value):Option (List SA):=zai (some []) (fun v _ r=>ob (cv v) fun x=>ob x.sa fun a=>ob r fun q=>some (a::q)) l
noncomputable def cvT(l:List Value):Option SV:=ob (cvl l) fun q=>some (.t q)
theorem sa_pl'{x:SV}{a:SA}(h:x.sa=some a)(hp:x.pl=true):a.pl=true:=by
 cases x<;>first|(cases h;exact hp)|cases h
theorem cvl_ok(E:En):∀{l:List Value} {q:List SA},cvl l=some q->q.map (SA.re E)=l/\plT q=true
 |[],q,h=>by
  have e:[]=q:=Option.some.inj h;subst e;exact⟨rfl,rfl⟩
 |v::l,q,h=>by
  obtain⟨x,h1,h⟩:=aaa h;obtain⟨a,h2,h⟩:=aaa h;obtain⟨q',h3,h⟩:=aaa h;cases h
  obtain⟨i1,i2⟩:=cvl_ok E (show cvl l=some q' from h3);refine⟨by rw [zal,i1,SV.sa_r h2,(cv_ok h1 E 0).1], ?_⟩
  show bi a.pl (plT q') false=true;rw [sa_pl' h2 (cv_pl h1),i2];rfl
theorem cvT_ok{l:List Value}{v:SV}(h:cvT l=some v)(E:En):v.re E=.tuple l.toArray/\v.pl=true:=by
 obtain⟨q,h1,h⟩:=aaa h;cases h
 obtain⟨h2,h3⟩:=cvl_ok E h1;exact⟨by simp only [SV.re];rw [h2],h3⟩
noncomputable def xs2(f:Str->Str->Option SV)(vs:List SV)(H:Hs):Option (SV×Hs):=
 match vs with
 |[.c (.s l x),.c (.s m y)]=>ob (f (dec l x) (dec m y)) fun v=>some (v,H)
 |_=>none
noncomputable def xsb(f:Str->UInt8->Option SV)(vs:List SV)(H:Hs):Option (SV×Hs):=
 match vs with
 |[.c (.s l x),.c (.i .u8 n)]=>ob (f (dec l x) (zan n)) fun v=>some (v,H)
 |_=>none
noncomputable def xi(f:Int->Option SV)(vs:List SV)(H:Hs):Option (SV×Hs):=
 match vs with
 |[.c (.i .i64 n)]=>ob (f (ures .i64 (zaq n (km .i64)))) fun v=>some (v,H)
 |_=>none
noncomputable def cstOf(xs:List SC):Option (List Str):=zai (some []) (fun x _ r=>ob x.asS fun q=>ob r fun l=>some (dec q.1 q.2::l)) xs
noncomputable def hcut(H:Hs)(i base n:Nat):Option (List SC):=ob (cellsOf ⟨.e,H,none⟩ i) fun xs=>bi (zad (zaj base n) (abd xs)) (some (ltake (ldrop xs base) n)) none
noncomputable def splR(et:Nat)(H:Hs)(r:List Str):Option (SV×Hs):=
 bi r.isEmpty none (some (.c (.sl H.nx (nat_lit 0) (abd r) (.r (nat_lit 0))),H.add (.cl et (.rw (nat_lit 1) (abd r)) (r.map fun a=>.s (abd a) (enc a)))))
noncomputable def xsplit(et:Nat)(vs:List SV)(H:Hs):Option (SV×Hs):=
 match vs with
 |[.c (.s l x),.c (.s m y)]=>bi (zac m (nat_lit 1)) (bi (zad l (nat_lit 1000000000)) (splR et H (spl (zan y) (dec l x))) none) none
 |_=>none
noncomputable def xjoin(vs:List SV)(H:Hs):Option (SV×Hs):=
 match vs with
 |[.c (.sl i base n c),.c (.s m y)]=>bi (capOk ⟨.e,H,none⟩ i n c) (ob (hcut H i base n) fun xs=>ob (cstOf xs) fun l=>bi (zad (abd l) (nat_lit 1000000000)) (bi (zad (abd (Lib.join l (dec m y))) (nat_lit 100000000000))
  (ob (cv (str (Lib.join l (dec m y)))) fun v=>some (v,H)) none) none) none
 |[.c .ns,.c (.s m y)]=>ob (cv (str [])) fun v=>some (v,H)
 |_=>none
noncomputable def xccR(t i:Nat)(H:Hs)(a s:SC):Option (SV×Hs):=
 bi (zaa a.isPt (fun p=>bi (zac p.1 i) (zac p.2 (nat_lit 0)) false) a.asP) (some (.t [],H.upd i (.cl t .ex [.p i (nat_lit 0),s]))) none
noncomputable def xcc(t:Nat)(vs:List SV)(H:Hs):Option (SV×Hs):=
 match vs with
 |[.c (.p i o)]=>bi (zac o (nat_lit 0)) (ob (H.t.get i) fun b=>ob b.asC fun q=>bi (zac q.1 t) (bi (Mo.rec true (fun _ _=>false) false false q.2.1) (match q.2.2 with
  |[a,s]=>xccR t i H a s
  |_=>none) none) none) none
 |_=>none
section
variable {C : Cx} {Gp : World -> Prop} {w0 w : World} {E E' : En} {H : Hs} {k : Nat}
theorem ext_plain(hC:Cok C Gp)(hE:Enters C.P k){vs:List SV}{v:SV}(hp:v.pl=true)(hc:∀E w,Gp w->CR C.P k (vs.map (SV.re E)) w fun V w'=>V=v.re E/\Hp w [] [] w')(hg:Gp w0)(inv:Inv w0 E H w):
  Enters C.P k/\CR C.P k (vs.map (SV.re E)) w fun V w'=>∃E',Ag H.nx E E'/\H.nx<=H.nx/\Inv w0 E' H w'/\v.ok H.nx/\V=v.re E':=by
 refine⟨hE,CR.mono (hc E w (hC.gp hg inv.hp)) ?_⟩
 rintro V w' ⟨rfl,hp'⟩
 exact⟨E,Ag.refl _ _,zab _,⟨inv.hp.call hp',inv.lt,inv.ok⟩,(sv_pl hp _ E E).1,rfl⟩
theorem xs2_ok(hC:Cok C Gp)(hE:Enters C.P k){f:Str->Str->Option SV}(hf:∀a b v,f a b=some v->v.pl=true/\∀E w,Gp w->CR C.P k [str a,str b] w fun V w'=>V=v.re E/\Hp w [] [] w'):aao C Gp (xs2 f) k:=by
 intro vs H v H' hv w0 E w hg inv hok;unfold xs2 at hv;split at hv
 ·rename_i l x m y;obtain⟨u,h1,hv⟩:=aaa hv;cases hv
  obtain⟨h2,h3⟩:=hf _ _ _ h1;exact ext_plain hC hE h2 (fun E w hw=>h3 E w hw) hg inv
 ·cases hv
theorem xsb_ok(hC:Cok C Gp)(hE:Enters C.P k){f:Str->UInt8->Option SV}(hf:∀a b v,f a b=some v->v.pl=true/\∀E w,Gp w->CR C.P k [str a,bt b] w fun V w'=>V=v.re E/\Hp w [] [] w'):aao C Gp (xsb f) k:=by
 intro vs H v H' hv w0 E w hg inv hok;unfold xsb at hv;split at hv
 ·rename_i l x n;obtain⟨u,h1,hv⟩:=aaa hv;cases hv
  obtain⟨h2,h3⟩:=hf _ _ _ h1;refine ext_plain hC hE h2 (fun E w hw=> ?_) hg inv;have e:(SV.c (.i .u8 n)).re E=bt (zan n):=by
   show Value.int .u8 (IntKind.u8.wrap n)=Value.int .u8 ((zan n).toNat:Int);congr 1
  have:=h3 E w hw
  rw [<-e]at this;exact this
 ·cases hv
theorem xi_ok(hC:Cok C Gp)(hE:Enters C.P k){f:Int->Option SV}(hf:∀z v,f z=some v->v.pl=true/\∀E w,Gp w->(-9223372036854775808<=z/\z<=9223372036854775807)->CR C.P k [.int .i64 z] w fun V w'=>V=v.re E/\Hp w [] [] w'):aao C Gp (xi f) k:=by
 intro vs H v H' hv w0 E w hg inv hok;unfold xi at hv;split at hv
 ·rename_i n;obtain⟨u,h1,hv⟩:=aaa hv;cases hv
  obtain⟨h2,h3⟩:=hf _ _ h1;refine ext_plain hC hE h2 (fun E w hw=> ?_) hg inv;have hlt:n%km .i64<18446744073709551616:=Nat.mod_lt _ (by decide);have hb: -9223372036854775808<=ures .i64 (n%km .i64)/\ures .i64 (n%km .i64)<=9223372036854775807:=by
   generalize n%km .i64=z at hlt⊢;rw [ures_eq];have e1:kh .i64=9223372036854775808:=rfl;have e2:km .i64=18446744073709551616:=rfl;rw [e2,e1];split
   ·omega
   ·constructor
    ·exact Int.le_trans (by decide) (Int.natCast_nonneg z)
    ·have:z<=9223372036854775807:=by omega
     exact Int.ofNat_le.2 this
  have:=h3 E w hw hb
  have e:(SV.c (.i .i64 n)).re E=.int .i64 (ures .i64 (n%km .i64)):=by
   show Value.int .i64 (IntKind.i64.wrap n)=_;rw [abk]
  rw [show List.map (SV.re E) [SV.c (.i .i64 n)]=[(SV.c (.i .i64 n)).re E]from rfl,e];exact this
 ·cases hv
theorem row_call(inv:Inv w0 E H w){α:Type}{f:α->List Value}{e sz cap:Nat}{o:Option Nat}{a:Option Addr}{l:List α}{w':World}{xs:List SC}(hp:Hp w [] [rwt f e sz o a cap l] w')(hne:l≠[])(hx:xs.map (SC.re E)=l.flatMap f)
  (hok:∀x∈xs,x.ok H.nx) (hl:xs.length=l.length*sz):∃E',Ag H.nx E E'/\Inv w0 E' (H.add (.cl e (.rw sz l.length) xs)) w'/\Value.slice a l.length cap=(SV.c (.sl H.nx 0 l.length (.r 0))).re E':=by
 rcases(hp.res _ zah).1 with⟨_,h,_,_⟩|⟨g,cur,ho,ha,hob,h1,h2,h3,h4⟩
 ·exact absurd h hne
 ·subst ha;have ho':o=some g:=ho;subst ho';refine⟨eat E H.nx (g,cap),aav _ _ _, ?_, ?_⟩
  ·refine inv.add (aav _ _ _) (okUp hok) ?_;refine hp_weak (k:=0) (inv.hp.callL hp) rfl ?_ ?_
   ·simp only [resOf,cres,aah];rfl
   ·show(resOf (eat E H.nx (g,cap)) H.nx (.cl e (.rw sz l.length) xs)).holds w'
    unfold Res.holds;simp only [resOf,cres,aah];rw [scs_ext (aav E H.nx _) hok,hx];have hxl:(l.flatMap f).length=l.length*sz:=by rw [<-hx,zaf,hl]
    have hle:l.length*sz<=cap*sz:=Nat.mul_le_mul_right _ h1;refine⟨cur,e,(0,0),hob,.inr rfl,by rw [hxl,h3];exact hle,by rw [hxl];exact h4,hxl,h1,h2,h3,rfl⟩
  ·simp only [SV.re,SC.re,aah,Cp.re,Nat.sub_zero]
theorem str_scs(E:En)(r:List Str):(r.map fun a=>SC.s (abd a) (enc a)).map (SC.re E)=r.flatMap eS:=by
 induction r with
 |nil=>rfl
 |cons a r ih=>
  rw [zal,zal,ih,List.flatMap_cons];show str (dec (abd a) (enc a))::_=[str a]++_;rw [aag,dec_enc];rfl
theorem xsplit_ok(hC:Cok C Gp)(hE:Enters C.P k){et:Nat}(hf:∀s c w,Gp w->s.length<=1000000000->CR C.P k [str s,str [c]] w fun v w'=>∃o a cap,v=.slice a (spl c s).length cap/\Hp w [] [rwt eS et 1 o a cap (spl c s)] w'):aao C Gp (xsplit et) k:=by
 intro vs H v H' hv w0 E w hg inv hok;unfold xsplit at hv;split at hv
 ·rename_i l x m y;obtain⟨h1,hv1⟩:=aab hv;obtain⟨h2,hv2⟩:=aab hv1;clear hv hv1;rw [aad]at h1;have h1:m=1:=h1;subst h1;rw [aac]at h2;unfold splR at hv2;generalize hr:spl (zan y) (dec l x)=r at hv2;rw [aaf]at hv2;split at hv2
  ·cases hv2
  ·rename_i hne;cases hv2
   have hne':r≠[]:=fun e=>hne (by rw [e];rfl)
   refine⟨hE, ?_⟩
   have e:[SV.c (.s l x),SV.c (.s 1 y)].map (SV.re E)=[str (dec l x),str [zan y]]:=by
    show [str (dec l x),str (dec 1 y)]=_
    have:dec 1 y=[zan y]:=by
     simp only [dec];congr 1
     apply UInt8.toNat_inj.1
     simp [UInt8.toNat_ofNat']
    rw [this]
   rw [e];refine CR.mono (hf (dec l x) (zan y) w (hC.gp hg inv.hp) (by rw [aai];exact h2)) ?_;rintro V w' ⟨o,a,cap,rfl,hp⟩
   rw [hr]at hp⊢;have hlen:(r.map fun a=>SC.s (abd a) (enc a)).length=r.length*1:=by simp
   obtain⟨E',g1,g2,g3⟩:=row_call inv hp hne' (str_scs E r) (fun x hx=>by obtain⟨a,_,rfl⟩:=List.mem_map.1 hx;trivial) hlen;refine⟨E',g1,Nat.le_succ _, ?_, ?_, ?_⟩
   ·rw [aag];exact g2
   ·show H.nx<H.nx+1;omega
   ·rw [aag];exact g3
 ·cases hv
theorem cst_ok(E:En):∀{xs:List SC} {l:List Str},cstOf xs=some l->xs.map (SC.re E)=l.flatMap eS
 |[],l,h=>by
  have e:[]=l:=Option.some.inj h;subst e;rfl
 |x::xs,l,h=>by
  obtain⟨q,h1,h⟩:=aaa h;obtain⟨r,h2,h⟩:=aaa h;cases h
  rw [asS_ok h1,zal,cst_ok E (show cstOf xs=some r from h2)];rfl
theorem flat_len:∀l:List Str,(l.flatMap eS).length=l.length
 |[]=>rfl
 |a::l=>by rw [List.flatMap_cons,List.length_append,flat_len l];simp [eS];omega
theorem hcut_rd(inv:Inv w0 E H w){i base n:Nat}{xs:List SC}(h:hcut H i base n=some xs):Rd w (some ⟨(E i).1,base,none⟩) (xs.map (SC.re E))/\xs.length=n:=by
 obtain⟨ys,h1,h⟩:=aaa h;obtain⟨h2,h⟩:=aab h;cases h
 rw [aac,aag]at h2;rw [abc,ldrop_eq];obtain⟨t,md,hb⟩:=cellsOf_ok h1;refine⟨fun j v hj=>⟨_,rfl, ?_⟩, ?_⟩
 ·rw [aan];rw [List.getElem?_map]at hj;obtain⟨x,hx,rfl⟩:=Option.map_eq_some_iff.1 hj;rw [List.getElem?_take]at hx;split at hx
  ·rw [List.getElem?_drop]at hx;exact inv.cell hb hx
  ·cases hx
 ·have h2:base+n<=ys.length:=h2;simp;omega
theorem xjoin_ok(hC:Cok C Gp)(hE:Enters C.P k) (hf:∀(t:Str) (w:World) (a:Option Addr) (n cap:Nat) (xs:List Str),n=xs.length->Rd w a (xs.flatMap eS)->n<=cap->xs.length<=1000000000/\(Lib.join xs t).length<=100000000000->
  CR C.P k [.slice a n cap,str t] w fun v w'=>v=str (Lib.join xs t)/\Hp w [] [] w'):aao C Gp xjoin k:=by
 intro vs H v H' hv w0 E w hg inv hok;unfold xjoin at hv;split at hv
 ·rename_i i base n c m y;obtain⟨h1,hv⟩:=aab hv;obtain⟨xs,h2,hv⟩:=aaa hv;obtain⟨l,h3,hv⟩:=aaa hv;obtain⟨h4,hv⟩:=aab hv;obtain⟨h5,hv⟩:=aab hv;obtain⟨u,h6,hv⟩:=aaa hv;cases hv
  rw [aac,aag]at h4 h5;refine⟨hE, ?_⟩
  obtain⟨r1,r2⟩:=hcut_rd inv h2;have e1:=cst_ok E h3;rw [e1]at r1;have e2:n=l.length:=by
   have:=congrArg List.length e1
   rw [zaf,r2]at this;rw [this,flat_len]
  have hcap:n<=c.re E i:=by
   cases c with
   |k cc=>have h':zad n cc=true:=h1;rw [aac]at h';exact h'
   |r off=>
    have hsd:Sd ⟨C.P,fun _=>none,C.X,C.pure,C.V⟩ ⟨0,none⟩ ⟨.e,H,none⟩ ⟨0,[],none⟩ w0 E w:=⟨rfl,inv,fun t v h=>(by rw [Tr.get_e]at h;cases h),fun g cs h=>(by cases h)⟩
    have:=room_ok hsd (show room ⟨.e,H,none⟩ i (off+n)=true from h1)
    show n<=(E i).2-off;omega
  refine CR.mono (hf (dec m y) w (some ⟨(E i).1,base,none⟩) n (c.re E i) l e2 r1 hcap ⟨h4,h5⟩) ?_;rintro V w' ⟨rfl,hp'⟩
  exact⟨E,Ag.refl _ _,zab _,⟨inv.hp.call hp',inv.lt,inv.ok⟩,(cv_ok h6 E _).2,(cv_ok h6 E 0).1.symm⟩
 ·rename_i m y;obtain⟨u,h6,hv⟩:=aaa hv;cases hv
  refine⟨hE, ?_⟩
  refine CR.mono (hf (dec m y) w none 0 0 [] rfl (fun j v h=>by simp at h) (zab _) ⟨by simp,by simp [Lib.join]⟩) ?_;rintro V w' ⟨rfl,hp'⟩
  exact⟨E,Ag.refl _ _,zab _,⟨inv.hp.call hp',inv.lt,inv.ok⟩,(cv_ok h6 E _).2,(cv_ok h6 E 0).1.symm⟩
 ·cases hv
theorem xcc_ok(hC:Cok C Gp)(hE:Enters C.P k){t:Nat} (hf:∀(b:Nat) (z:Bool) (s:Value) (w:World),Hp w (owns [blk b [Value.pointer (bif z then some ⟨b,0,none⟩else none),s] t]) [blk b [Value.pointer (bif z then some ⟨b,0,none⟩else none),s] t] w->
  CR C.P k [Value.pointer (some ⟨b,0,none⟩)] w fun v w'=>v=.tuple #[]/\Hp w (owns [blk b [Value.pointer (bif z then some ⟨b,0,none⟩else none),s] t]) [blk b [Value.pointer (some ⟨b,0,none⟩),s] t] w'):aao C Gp (xcc t) k:=by
 intro vs H v H' hv w0 E w hg inv hok;unfold xcc at hv;split at hv
 ·rename_i i o;obtain⟨h1,hv1⟩:=aab hv;obtain⟨b,h2,hv2⟩:=aaa hv1;obtain⟨q,h3,hv3⟩:=aaa hv2;obtain⟨h4,hv4⟩:=aab hv3;obtain⟨h5,hv5⟩:=aab hv4;clear hv hv1 hv2 hv3 hv4;obtain⟨t',md,xs⟩:=q;rw [hbC_ok h3]at h2;rw [aad]at h1 h4;have h1:o=0:=h1;have h4:t'=t:=h4;subst h1;subst h4;cases md with
  |rw sz mm=>cases h5
  |bw=>cases h5
  |fb=>cases h5
  |ex=>
   split at hv5
   ·rename_i a s hxs;have hxs:xs=[a,s]:=hxs;subst hxs;obtain⟨h6,h7⟩:=aab (show bi (zaa a.isPt (fun p=>bi (zac p.1 i) (zac p.2 0) false) a.asP) (some (SV.t [],H.upd i (.cl t' .ex [.p i 0,s]))) none=some (v,H')from hv5);cases h7
    have h2:H.t.get i=some (.cl t' .ex [a,s]):=h2;have hz:∃z:Bool,a.re E=Value.pointer (bif z then some ⟨(E i).1,0,none⟩else none):=by
     cases a<;>first|exact⟨false,rfl⟩|cases h6|skip
     obtain⟨g1,g2⟩:=bb2 h6;rw [aad]at g1 g2;have g1:_=i:=g1;have g2:_=0:=g2;subst g1;subst g2;exact⟨true,rfl⟩
    obtain⟨z,hz⟩:=hz;obtain⟨cur,tt,fz,c1,c2,c3,c4,c5⟩:=inv.cells h2;have ht:tt=t':=by
     rcases c2 with h|h
     ·cases h
     ·exact h
    subst ht;obtain⟨c6,c7⟩:=c5;subst c7;have hcur:cur=[a.re E,s.re E].toArray:=by
     apply Array.toList_inj.1
     have c6':cur.size=2:=c6
     have:=c4
     rw [List.take_of_length_le (by simp [c6'])]at this;rw [this];rfl
    rw [hcur,hz]at c1;have hst:=Hp.start1 c1;refine⟨hE,CR.mono (hf (E i).1 z (s.re E) w hst) ?_⟩
    rintro V w' ⟨rfl,hp2⟩
    have hi:=inv.lt i _ h2;have hp0:=inv.hp.front i _ (inv.at h2);have hp1:Hp w0 [] ([blk (E i).1 [Value.pointer (bif z then some ⟨(E i).1,0,none⟩else none),s.re E] tt]++(aam E H).eraseIdx i) w:=
     hp_weak (k:=0) (r':=blk (E i).1 [Value.pointer (bif z then some ⟨(E i).1,0,none⟩else none),s.re E] tt) hp0 rfl rfl (by show w.heap[(E i).1]? =_;exact c1)
    have hp3:=hp1.callK hp2;have hb3:w'.heap[(E i).1]? =some (.cells [Value.pointer (some ⟨(E i).1,0,none⟩),s.re E].toArray tt (0,0)):=(hp3.res _ zah).1;have hp4:Hp w0 [] (resOf E i (.cl tt .ex [.p i 0,s])::(aam E H).eraseIdx i) w':=
     hp_weak (k:=0) (r':=resOf E i (.cl tt .ex [.p i 0,s])) hp3 rfl rfl ⟨_,tt,(0,0),hb3,.inr rfl,by simp,by simp [SC.re],rfl,rfl⟩
    refine⟨E,Ag.refl _ _,zab _,inv.upd hi ?_ (Hp.perm hp4 (set_perm _ _ _ (by rw [aat];exact hi)).symm),(fun x hx=>by cases hx),rfl⟩
    intro x hx;have hok2:=inv.ok i _ h2;rcases List.mem_cons.1 hx with rfl|hx
    ·exact hi
    ·exact hok2 x (zag _ hx)
   ·cases hv5
 ·cases hv
end
noncomputable def isT(r:Option (SV×Hs)):Bool:=zaa false (fun p=>SV.rec (fun x=>zaa false (fun b=>b) x.asB) (fun _=>false) (fun _=>false) false p.1) r
theorem isT_ok{r:Option (SV×Hs)}(h:isT r=true):∃H',r=some (.c (.b true),H'):=by
 cases r with
 |none=>cases h
 |some p=>
  obtain⟨v,H⟩:=p;cases v with
  |c x=>
   have h':(zaa false (fun b=>b) x.asB:Bool)=true:=h;cases hb:x.asB with
   |none=>rw [hb]at h';cases h'
   |some b=>
    rw [hb]at h';have h':b=true:=h';subst h';rw [asB_ok hb];exact⟨H,rfl⟩
  |_=>cases h
open Go.Wk
open List renaming rec -> zai
open Nat renaming beq -> zac
open Option renaming rec -> zaa
noncomputable def memo(l:List (List SV×SV))(vs:List SV)(H:Hs):Option (SV×Hs):=zai none (fun p _ r=>bi (eqL SV.eqb vs p.1) (some (p.2,H)) r) l
noncomputable def aae(C:Cx)(n k:Nat)(p:List SV×SV):Bool:=bi (plV p.1) (bi p.2.pl (zaa false (fun q=>SV.eqb q.1 p.2) ((lev C n).call k p.1 H0)) false) false
def Ans(C:Cx)(k:Nat):List (List SV×SV)->Prop
 |[]=>True
 |p::l=>(∃n,aae C n k p=true)/\Ans C k l
noncomputable def Cx.memo(C:Cx)(k:Nat)(l:List (List SV×SV)):Cx:=⟨C.P,C.G,fun j=>bi (zac j k) (some (Ce.memo l)) (C.X j),C.pure,C.V⟩
section
variable {C : Cx} {Gp : World -> Prop}
theorem memo_ok(hC:Cok C Gp)(hX:Xok C Gp){k:Nat}:∀{l:List (List SV×SV)},Ans C k l->aao C Gp (memo l) k
 |[],_=>fun vs H v H' hv=>by cases hv
 |p::l,⟨⟨n,ha⟩,hl⟩=>by
  intro vs H v H' hv w0 E w hg inv hok;have hv:bi (eqL SV.eqb vs p.1) (some (p.2,H)) (memo l vs H)=some (v,H'):=hv;rw [aaf]at hv;split at hv
  ·rename_i he;have e:=eqL_ok sve_ok he;cases hv
   subst e;obtain⟨h1,h2⟩:=bb2 ha;obtain⟨h2,h3⟩:=bb2 h2;cases hc:(lev C n).call k p.1 H0 with
   |none=>rw [hc]at h3;cases h3
   |some q=>
    rw [hc]at h3;obtain⟨v,H1⟩:=q;have e:v=p.2:=sve_ok h3;subst e;have hr:=fun E w hw=>run_says (w:=w) hC hX hc h1 h2 hw E
    exact ext_plain hC (hr E w (hC.gp hg inv.hp)).1 h2 (fun E w hw=>(hr E w hw).2) hg inv
  ·exact memo_ok hC hX hl vs H v H' hv w0 E w hg inv hok
theorem aap(h:Cok C Gp/\Xok C Gp){k:Nat}{l:List (List SV×SV)}(ha:Ans C k l):Cok (C.memo k l) Gp/\Xok (C.memo k l) Gp:=by
 obtain⟨hC,hX⟩:=h;refine⟨⟨hC.gp,hC.g,hC.ng,hC.mo,hC.ov⟩, ?_⟩
 intro j f hf;have hf2:bi (zac j k) (some (Ce.memo l)) (C.X j)=some f:=hf;clear hf;rw [aaf]at hf2;split at hf2
 ·rename_i hj;rw [aad]at hj;have hj:j=k:=hj;subst hj;cases hf2
  exact memo_ok hC hX ha
 ·exact hX j f hf2
end
open Go.Wk
open List renaming mem_cons_of_mem -> zag, mem_cons_self -> zah, rec -> zai
open Nat renaming beq -> zac, blt -> zak
open Option renaming rec -> zaa
noncomputable def mkF(l:List (Nat×SV)):Tr SV:=zai .e (fun p _ r=>r.set p.1 p.2) l
noncomputable def mkH(l:List (Nat×HB)):Tr HB:=zai .e (fun p _ r=>r.set p.1 p.2) l
noncomputable def mkS(fl:List (Nat×SV))(nx:Nat)(hl:List (Nat×HB)):T:=⟨mkF fl,⟨nx,mkH hl⟩,none⟩
theorem mkH_get{i:Nat}{b:HB}:∀{l:List (Nat×HB)},(mkH l).get i=some b->(i,b)∈l
 |[],h=>by
  rw [show mkH []=.e from rfl,Tr.get_e]at h;cases h
 |p::l,h=>by
  have h':((mkH l).set p.1 p.2).get i=some b:=h;rw [Tr.get_set]at h';split at h'
  ·rename_i e;cases h'
   rw [e];exact zah
  ·exact zag _ (mkH_get h')
noncomputable def hlB(nx:Nat)(t:Tr HB)(hl:List (Nat×HB)):Bool:=zai true (fun q _ r=>bi (zak q.1 nx) (bi (HB.eqb (hatN t q.1) q.2) r false) false) hl
noncomputable def stB(fl:List (Nat×SV))(nx:Nat)(hl:List (Nat×HB))(r:Option (Ex×T)):Bool:=
 zaa false (fun p=>Ex.rec (bi (zac p.2.H.nx nx) (bi p.2.D.isNone (bi (Tr.eqb SV.eqb p.2.F (mkF fl)) (hlB nx p.2.H.t hl) false) false) false) false (fun _=>false) p.1) r
theorem hlB_ok{nx:Nat}{H:Hs}:∀{hl:List (Nat×HB)},hlB nx H.t hl=true->∀q∈hl,q.1<nx/\hat H q.1=q.2
 |[],_,q,hq=>by cases hq
 |p::l,h,q,hq=>by
  obtain⟨h1,h2⟩:=bb2 (show bi (zak p.1 nx) (bi (HB.eqb (hatN H.t p.1) p.2) (hlB nx H.t l) false) false=true from h);obtain⟨h2,h3⟩:=bb2 h2;rcases List.mem_cons.1 hq with rfl|hq
  ·exact⟨by simpa [Nat.blt_eq] using h1,by rw [<-hatN_eq];exact hbe_ok h2⟩
  ·exact hlB_ok h3 q hq
theorem stB_ok{fl:List (Nat×SV)}{nx:Nat}{hl:List (Nat×HB)}{r:Option (Ex×T)}(h:stB fl nx hl r=true):
  ∃S,r=some (.nm,S)/\S.H.nx=nx/\S.D=none/\S.F=mkF fl/\∀q∈hl,q.1<nx/\hat S.H q.1=q.2:=by
 cases r with
 |none=>cases h
 |some p=>
  obtain⟨e,S⟩:=p;cases e with
  |rt=>cases h
  |xt i=>cases h
  |nm=>
   obtain⟨h1,h2⟩:=bb2 (show bi (zac S.H.nx nx) (bi S.D.isNone (bi (Tr.eqb SV.eqb S.F (mkF fl)) (hlB nx S.H.t hl) false) false) false=true from h);obtain⟨h2,h3⟩:=bb2 h2;obtain⟨h3,h4⟩:=bb2 h3;refine⟨S,rfl,nb h1, ?_,tre_ok sve_ok h3,hlB_ok h4⟩
   cases hd:S.D with
   |none=>rfl
   |some d=>rw [hd]at h2;cases h2
theorem inv_weak{w0 w:World}{E:En}{H H':Hs}(h:Inv w0 E H w)(hn:H'.nx=H.nx)(hw:∀i b,H'.t.get i=some b->i<H.nx/\hat H i=b):Inv w0 E H' w:=by
 have hc:∀i,hat H' i=hat H i\/hat H' i=.gn:=by
  intro i;cases hg:H'.t.get i with
  |none=>right;unfold hat;rw [hg];rfl
  |some b=>left;rw [(hw i b hg).2];unfold hat;rw [hg];rfl
 refine⟨⟨h.hp.os,h.hp.tape,h.hp.output,h.hp.size,h.hp.below, ?_, ?_⟩,fun i b hb=>by rw [hn];exact(hw i b hb).1,fun i b hb=>by rw [hn,<-(hw i b hb).2];exact h.hatok i⟩
 ·intro r hr;unfold aam at hr;obtain⟨i,hi,rfl⟩:=List.mem_map.1 hr;have hi':i<H.nx:=by rw [<-hn];simpa using hi
  rcases hc i with e|e
  ·rw [e];exact h.hp.res _ (by unfold aam;exact List.mem_map.2 ⟨i,by simpa using hi',rfl⟩)
  ·rw [e];exact⟨trivial,fun b hb=>by cases hb⟩
 ·have h1:=h.hp.sep;unfold aam at h1⊢;rw [List.pairwise_map]at h1⊢;rw [hn];refine h1.imp ?_;intro a b hab;rcases hc a with e|e
  ·rw [e];rcases hc b with e'|e'
   ·rw [e'];exact hab
   ·rw [e'];intro x _ h2;cases h2
  ·rw [e];intro x h2;cases h2
section
variable {C : Cx} {Gp : World -> Prop} {m : M}
def RunAt(C:Cx)(Gp:World->Prop)(m:M)(S:T)(c:Code)(e:Ex)(S':T):Prop:=
 ∀w0 E w Q,At C Gp m S w0 E w->NoP Q->Then C Gp m S S' w0 E (fun E' w'=>Q (exr e) (fr (aau E' m S'.D) (rF E' S'.F)) w')->Go.Wk.C C.P (aau E m S.D) Q c (rF E S.F) w
theorem ra_step(hC:Cok C Gp/\Xok C Gp){n:Nat}{S S2:T}{a c:Code}{e:Ex}(fl:List (Nat×SV))(nx:Nat)(hl:List (Nat×HB))(h:stB fl nx hl (exec C a (lev C n) m S)=true)
  (hb:RunAt C Gp m (mkS fl nx hl) c e S2):RunAt C Gp m S (.seq a c) e S2:=by
 obtain⟨S1,hx,h1,h2,h3,h4⟩:=stB_ok h;intro w0 E w Q hat hq hk;refine c_seq (exec_ok hC.1 (lev_ok hC.1 hC.2 n) a m S .nm S1 hx w0 E w _ hat (np_seqA hq) ?_);intro E1 w1 a1 n1 at1;have hnx:(mkS fl nx hl).H.nx=S1.H.nx:=h1.symm;have at2:At C Gp m (mkS fl nx hl) w0 E1 w1:=by
  refine⟨inv_weak at1.inv hnx (fun i b hb=> ?_), ?_,at1.gp, ?_,fun r hr=>(by cases hr)⟩
  ·have:=h4 _ (mkH_get hb)
   exact⟨by rw [h1];exact this.1,this.2⟩
  ·have:=at1.fok
   rw [hnx];intro t v hv;exact this t v (by rw [h3];exact hv)
  ·rw [hnx];exact at1.m
 have:=hb w0 E1 w1 Q at2 hq (aba hk a1 (by rw [hnx];exact n1))
 have hr:ro E1 m=ro E m:=ro_ext a1 hat.m;have hF:rF E1 (mkS fl nx hl).F=rF E1 S1.F:=by rw [h3];rfl
 have hD:(mkS fl nx hl).D=S1.D:=by rw [h2];rfl
 rw [hF,hD]at this;unfold aau at this⊢;rw [hr]at this⊢;exact q_next this
noncomputable def fnB(C:Cx)(m:M)(fn:Func)(S:T):Bool:=bi S.D.isNone (zaa false (fun l=>SV.eqb (oneV l) (.c (.b true))) (resL C m S fn.results.toList)) false
noncomputable def finB(C:Cx)(m:M)(fn:Func)(r:Option (Ex×T)):Bool:=zaa false (fun p=>Ex.rec (fnB C m fn p.2) (fnB C m fn p.2) (fun _=>false) p.1) r
theorem finB_ok{fn:Func}{r:Option (Ex×T)}(h:finB C m fn r=true):∃e S azq,r=some (e,S)/\(e=.nm\/e=.rt)/\S.D=none/\resL C m S fn.results.toList=some azq/\oneV azq=.c (.b true):=by
 have f:∀{S:T},fnB C m fn S=true->S.D=none/\∃azq,resL C m S fn.results.toList=some azq/\oneV azq=.c (.b true):=by
  intro S h;obtain⟨h1,h2⟩:=bb2 h;refine⟨?_, ?_⟩
  ·cases hd:S.D with
   |none=>rfl
   |some d=>rw [hd]at h1;cases h1
  ·cases hr:resL C m S fn.results.toList with
   |none=>rw [hr]at h2;cases h2
   |some azq=>rw [hr]at h2;exact⟨azq,rfl,sve_ok h2⟩
 cases r with
 |none=>cases h
 |some p=>
  obtain⟨e,S⟩:=p;cases e with
  |nm=>obtain⟨h1,azq,h2,h3⟩:=f h;exact⟨_,S,azq,rfl,.inl rfl,h1,h2,h3⟩
  |rt=>obtain⟨h1,azq,h2,h3⟩:=f h;exact⟨_,S,azq,rfl,.inr rfl,h1,h2,h3⟩
  |xt i=>cases h
def aay(C:Cx)(Gp:World->Prop)(m:M)(fn:Func)(S:T)(c:Code):Prop:=
 ∃e S' azq,RunAt C Gp m S c e S'/\(e=.nm\/e=.rt)/\S'.D=none/\resL C m S' fn.results.toList=some azq/\oneV azq=.c (.b true)
theorem fa_end(hC:Cok C Gp/\Xok C Gp){n:Nat}{fn:Func}{S:T}{c:Code}(h:finB C m fn (exec C c (lev C n) m S)=true):aay C Gp m fn S c:=by
 obtain⟨e,S',azq,h1,h2,h3,h4,h5⟩:=finB_ok h;exact⟨e,S',azq,fun w0 E w Q hat hq hk=>exec_ok hC.1 (lev_ok hC.1 hC.2 n) c m S e S' h1 w0 E w Q hat hq hk,h2,h3,h4,h5⟩
theorem fa_step(hC:Cok C Gp/\Xok C Gp){n:Nat}{fn:Func}{S:T}{a c:Code}(fl:List (Nat×SV))(nx:Nat)(hl:List (Nat×HB))(h:stB fl nx hl (exec C a (lev C n) m S)=true)
  (hb:aay C Gp m fn (mkS fl nx hl) c):aay C Gp m fn S (.seq a c):=by
 obtain⟨e,S',azq,h1,h2⟩:=hb;exact⟨e,S',azq,ra_step hC fl nx hl h h1,h2⟩
theorem pieces_say(hC:Cok C Gp/\Xok C Gp){k:Nat}{fn:Func}{c:Code}(h1:C.P.funcs[k]? =some fn)(h2:fn.body=some c)(hm:mdF c []=none)(h:aay C Gp ⟨fn.ntmps,none⟩ fn ⟨.e,H0,none⟩ c){w:World}(hg:Gp w):
  Enters C.P k/\CR C.P k [] w fun V w'=>V=.bool true/\Hp w [] [] w':=by
 obtain⟨e,S,azq,hr,he,hD,hres,ho⟩:=h;refine⟨⟨fn,c,h1,h2,hC.1.ng k fn h1⟩, ?_⟩
 let E:En:=fun _=>(0,0)
 have hat:At C Gp ⟨fn.ntmps,none⟩ ⟨.e,H0,none⟩ w E w:=by
  refine⟨inv_bare E 0 w, ?_,hg,fun l hl=>(by cases hl),fun r hr=>(by cases hr)⟩
  intro t v hv;rw [show(⟨.e,H0,none⟩:T).F=.e from rfl,Tr.get_e]at hv;cases hv
 have hF:rF E (.e:Tr SV)=argF []:=setL_args E [];refine enter (k:=fn.ntmps) h1 h2 rfl (Nat.zero_le _) ?_;rw [<-hF];refine hr w E w _ hat np_body ?_;intro E' w' a' n' at';obtain⟨q1,q2⟩:=results_ok hC.1 at' hres [] none;rw [hD];have hv:(oneV azq).re E'=.bool true:=by rw [ho];rfl
 rw [hv]at q1;rcases he with rfl|rfl
 ·exact⟨rfl,_,q1,_,rfl,rfl,at'.inv.hp.nil⟩
 ·exact⟨rfl,_,q1,_,rfl,rfl,at'.inv.hp.nil⟩
end
noncomputable def sqL(c:Code):Code:=Code.rec (motive:=fun _=>Code) .skip (fun _ _ _=>.skip) (fun a _ _ _=>a) (fun _ _ _ _ _=>.skip) (fun _ _ _=>.skip) (fun _ _=>.skip) (fun _ _ _ _ _ _=>.skip) (fun _=>.skip) (fun _ _=>.skip) (fun _=>.skip) (fun _=>.skip) .skip (fun _=>.skip) c
noncomputable def sqR(c:Code):Code:=Code.rec (motive:=fun _=>Code) .skip (fun _ _ _=>.skip) (fun _ b _ _=>b) (fun _ _ _ _ _=>.skip) (fun _ _ _=>.skip) (fun _ _=>.skip) (fun _ _ _ _ _ _=>.skip) (fun _=>.skip) (fun _ _=>.skip) (fun _=>.skip) (fun _=>.skip) .skip (fun _=>.skip) c
noncomputable def isSq(c:Code):Bool:=Code.rec (motive:=fun _=>Bool) false (fun _ _ _=>false) (fun _ _ _ _=>true) (fun _ _ _ _ _=>false) (fun _ _ _=>false) (fun _ _=>false) (fun _ _ _ _ _ _=>false) (fun _=>false) (fun _ _=>false) (fun _=>false) (fun _=>false) false (fun _=>false) c
theorem isSq_ok{c:Code}(h:isSq c=true):c=.seq (sqL c) (sqR c):=by
 cases c<;>first|rfl|cases h
noncomputable def fnAt(P:Program)(k:Nat):Func:=zaa default (fun f=>f) (P.funcs[k]?)
noncomputable def bodyOf(fn:Func):Code:=zaa .skip (fun c=>c) fn.body
noncomputable def hasB(P:Program)(k:Nat):Bool:=zaa false (fun fn=>bi fn.body.isSome (mdF (bodyOf fn) []).isNone false) (P.funcs[k]?)
section
variable {C : Cx} {Gp : World -> Prop} {m : M}
theorem aby(hC:Cok C Gp/\Xok C Gp){n:Nat}{fn:Func}{S:T}{c:Code}(fl:List (Nat×SV))(nx:Nat)(hl:List (Nat×HB))(h:bi (isSq c) (stB fl nx hl (exec C (sqL c) (lev C n) m S)) false=true)
  (hb:aay C Gp m fn (mkS fl nx hl) (sqR c)):aay C Gp m fn S c:=by
 obtain⟨h1,h2⟩:=bb2 h;rw [isSq_ok h1];exact fa_step hC fl nx hl h2 hb
theorem fn_say(hC:Cok C Gp/\Xok C Gp){k:Nat}(h:hasB C.P k=true)(hf:aay C Gp ⟨(fnAt C.P k).ntmps,none⟩ (fnAt C.P k) ⟨.e,H0,none⟩ (bodyOf (fnAt C.P k))){w:World}(hg:Gp w):
  Enters C.P k/\CR C.P k [] w fun V w'=>V=.bool true/\Hp w [] [] w':=by
 unfold hasB fnAt at*;cases hk:C.P.funcs[k]? with
 |none=>rw [hk]at h;cases h
 |some fn=>
  rw [hk]at h hf;obtain⟨h1,h2⟩:=bb2 (show bi fn.body.isSome (mdF (bodyOf fn) []).isNone false=true from h);have hm:mdF (bodyOf fn) []=none:=by
   cases hd:mdF (bodyOf fn) []with
   |none=>rfl
   |some d=>rw [hd]at h2;cases h2
  cases hb:fn.body with
  |none=>rw [hb]at h1;cases h1
  |some c=>
   have e:bodyOf fn=c:=by unfold bodyOf;rw [hb]
   rw [e]at hm;exact pieces_say hC hk hb hm (by rw [<-e];exact hf) hg
theorem said_cx(h:Cok C Gp/\Xok C Gp){k:Nat}(hs:∀w,Gp w->Enters C.P k/\CR C.P k [] w fun V w'=>V=.bool true/\Hp w [] [] w'):
  Cok (C.memo k [([],.c (.b true))]) Gp/\Xok (C.memo k [([],.c (.b true))]) Gp:=by
 obtain⟨hC,hX⟩:=h;refine⟨⟨hC.gp,hC.g,hC.ng,hC.mo,hC.ov⟩, ?_⟩
 intro j f hf;have hf2:bi (zac j k) (some (Ce.memo [([],.c (.b true))])) (C.X j)=some f:=hf;clear hf;rw [aaf]at hf2;split at hf2
 ·rename_i hj;rw [aad]at hj;have hj:j=k:=hj;subst hj;cases hf2
  intro vs H v H' hv w0 E w hg inv hok;have hv:bi (eqL SV.eqb vs []) (some (.c (.b true),H)) none=some (v,H'):=hv;rw [aaf]at hv;split at hv
  ·rename_i he;have e:=eqL_ok sve_ok he;cases hv
   subst e;exact ext_plain hC (hs w (hC.gp hg inv.hp)).1 rfl (fun E w hw=>(hs w hw).2) hg inv
  ·cases hv
 ·exact hX j f hf2
end
open Go.Wk
open List renaming map_append -> zav, map_congr_left -> zae, rec -> zai
open Nat renaming add -> zaj, beq -> zac
open Option renaming rec -> zaa
noncomputable def shB(d:Nat):Nat->Nat:=fun i=>zaj i d
noncomputable def abo(d:Nat)(t:Tr HB)(l:List (Nat×HB)):Tr HB:=zai t (fun p _ r=>r.set (zaj p.1 d) (p.2.ren (shB d))) l
abbrev AnN:=List SV×SV×Nat×List (Nat×HB)
noncomputable def memoN(l:List AnN)(vs:List SV)(H:Hs):Option (SV×Hs):=
 zai none (fun p _ r=>bi (eqL SV.eqb vs p.1) (some (p.2.1.ren (shB H.nx),⟨zaj p.2.2.1 H.nx,abo H.nx H.t p.2.2.2⟩)) r) l
noncomputable def noLp(l:List (Nat×HB)):Bool:=zai true (fun p _ r=>bi (HB.rec (motive:=fun _=>Bool) (fun _ _ _=>true) (fun _ _ _=>true) (fun _ _ _ _ _ _ _=>false) true true (fun _=>true) p.2) r false) l
noncomputable def ansN(C:Cx)(n k:Nat)(p:AnN):Bool:=
 bi (plV p.1) (bi (noLp p.2.2.2) (zaa false (fun q=>bi (SV.eqb q.1 p.2.1) (bi (zac q.2.nx p.2.2.1) (hlB p.2.2.1 q.2.t p.2.2.2) false) false) ((lev C n).call k p.1 H0)) false) false
def AnsN(C:Cx)(k:Nat):List AnN->Prop
 |[]=>True
 |p::l=>(∃n,ansN C n k p=true)/\AnsN C k l
noncomputable def Cx.memoN(C:Cx)(k:Nat)(l:List AnN):Cx:=⟨C.P,C.G,fun j=>bi (zac j k) (some (Ce.memoN l)) (C.X j),C.pure,C.V⟩
theorem SC.ren_up{n n':Nat}{f:Nat->Nat}(hf:∀i,i<n->f i<n'){x:SC}(h:x.ok n):(x.ren f).ok n':=by
 cases x with
 |fn g cs=>
  have h':∀j∈cs,j<n:=h
  show∀j∈mapL f cs,j<n'
  rw [abb];intro j hj;obtain⟨a,ha,rfl⟩:=List.mem_map.1 hj;exact hf _ (h' a ha)
 |p i o=>exact hf _ h
 |sl i b m c=>exact hf _ h
 |y i=>exact hf _ h
 |m i=>exact hf _ h
 |z i b d o=>exact hf _ h
 |_=>trivial
theorem scs_rup{n n':Nat}{f:Nat->Nat}(hf:∀i,i<n->f i<n'){l:List SC}(h:∀x∈l,x.ok n):∀x∈mapL (SC.ren f) l,x.ok n':=by
 rw [abb];intro x hx;obtain⟨a,ha,rfl⟩:=List.mem_map.1 hx;exact SC.ren_up hf (h a ha)
theorem SA.ren_up{n n':Nat}{f:Nat->Nat}(hf:∀i,i<n->f i<n'){x:SA}(h:x.ok n):(x.ren f).ok n':=by
 cases x with
 |c x=>exact SC.ren_up hf h
 |a l=>exact scs_rup hf h
theorem SV.ren_up{n n':Nat}{f:Nat->Nat}(hf:∀i,i<n->f i<n'){x:SV}(h:x.ok n):(x.ren f).ok n':=by
 cases x with
 |c x=>exact SC.ren_up hf h
 |a l=>exact scs_rup hf h
 |t l=>
  show∀x∈mapL (SA.ren f) l,x.ok n'
  rw [abb];intro x hx;obtain⟨a,ha,rfl⟩:=List.mem_map.1 hx;exact SA.ren_up hf (h a ha)
 |u=>trivial
theorem HB.ren_up{n n':Nat}{f:Nat->Nat}(hf:∀i,i<n->f i<n'){b:HB}(hl:∀x1 x2 x3 x4 x5 x6 x7,b≠.lp x1 x2 x3 x4 x5 x6 x7)(h:b.ok n):(b.ren f).ok n':=by
 cases b with
 |cl t md xs=>exact scs_rup hf h
 |lp x1 x2 x3 x4 x5 x6 x7=>exact(hl _ _ _ _ _ _ _ rfl).elim
 |mp es=>
  show∀p∈mapL (fun p:SC×SC=>(p.1.ren f,p.2.ren f)) es,p.1.ok n'/\p.2.ok n'
  rw [abb];intro p hp;obtain⟨a,ha,rfl⟩:=List.mem_map.1 hp;exact⟨SC.ren_up hf (h a ha).1,SC.ren_up hf (h a ha).2⟩
 |it l x pos=>trivial
 |df=>trivial
 |gn=>trivial
theorem noLp_ok:∀{l:List (Nat×HB)},noLp l=true->∀p∈l,∀x1 x2 x3 x4 x5 x6 x7,p.2≠.lp x1 x2 x3 x4 x5 x6 x7
 |[],_,p,hp=>by cases hp
 |q::l,h,p,hp=>by
  obtain⟨h1,h2⟩:=bb2 (show bi (HB.rec (motive:=fun _=>Bool) (fun _ _ _=>true) (fun _ _ _=>true) (fun _ _ _ _ _ _ _=>false) true true (fun _=>true) q.2) (noLp l) false=true from h);rcases List.mem_cons.1 hp with rfl|hp
  ·intro x1 x2 x3 x4 x5 x6 x7 e;rw [e]at h1;cases h1
  ·exact noLp_ok h2 p hp
theorem abn(d:Nat)(t:Tr HB):∀(l:List (Nat×HB)) (i:Nat),(abo d t l).get i=if d<=i then(match(mkH l).get (i-d)with|some b=>some (b.ren (shB d))|none=>t.get i)else t.get i
 |[],i=>by
  show t.get i=_;rw [show mkH []=.e from rfl,Tr.get_e];split<;>rfl
 |p::l,i=>by
  have e:abo d t (p::l)=(abo d t l).set (p.1+d) (p.2.ren (shB d)):=rfl;have e2:mkH (p::l)=(mkH l).set p.1 p.2:=rfl;rw [e,e2,Tr.get_set,Tr.get_set,abn d t l i];by_cases h:d<=i
  ·rw [if_pos h,if_pos h];by_cases h2:i=p.1+d
   ·rw [if_pos h2,if_pos (by omega)]
   ·rw [if_neg h2,if_neg (by omega)]
  ·rw [if_neg h,if_neg h,if_neg (by omega)]
section
variable {C : Cx} {Gp : World -> Prop}
theorem inv_union{w0 w w':World}{E E':En}{H:Hs}{n:Nat}{l:List (Nat×HB)}(inv:Inv w0 E H w)(inv':Inv w E' ⟨n,mkH l⟩ w')(hl:noLp l=true):
  Inv w0 (fun i=>if i<H.nx then E i else E' (i-H.nx)) ⟨n+H.nx,abo H.nx H.t l⟩ w':=by
 have hag:Ag H.nx E (fun i=>if i<H.nx then E i else E' (i-H.nx)):=fun i hi=>if_pos hi
 have hE:(fun i=>(fun i=>if i<H.nx then E i else E' (i-H.nx)) (shB H.nx i))=E':=by
  funext i
  show(if i+H.nx<H.nx then E (i+H.nx)else E' (i+H.nx-H.nx))=_
  rw [if_neg (by omega),Nat.add_sub_cancel]
 have h1:∀i,i<H.nx->hat ⟨n+H.nx,abo H.nx H.t l⟩ i=hat H i:=by
  intro i hi;unfold hat
  show((abo H.nx H.t l).get i).getD .gn=_
  rw [abn,if_neg (by omega)]
 have h2:∀j,hat ⟨n+H.nx,abo H.nx H.t l⟩ (j+H.nx)=(hat ⟨n,mkH l⟩ j).ren (shB H.nx):=by
  intro j;unfold hat
  show((abo H.nx H.t l).get (j+H.nx)).getD .gn=(((mkH l).get j).getD .gn).ren _
  rw [abn,if_pos (by omega),Nat.add_sub_cancel];cases hb:(mkH l).get j with
  |some b=>rfl
  |none=>
   cases hc:H.t.get (j+H.nx)with
   |some c=>have:=inv.lt _ _ hc;omega
   |none=>rfl
 have hnl:∀j,∀x1 x2 x3 x4 x5 x6 x7,hat ⟨n,mkH l⟩ j≠.lp x1 x2 x3 x4 x5 x6 x7:=by
  intro j;unfold hat
  show∀x1 x2 x3 x4 x5 x6 x7,(((mkH l).get j).getD .gn)≠_
  cases hb:(mkH l).get j with
  |some b=>exact noLp_ok hl _ (mkH_get hb)
  |none=>intro x1 x2 x3 x4 x5 x6 x7 e;cases e
 have e:aam (fun i=>if i<H.nx then E i else E' (i-H.nx)) ⟨n+H.nx,abo H.nx H.t l⟩=aam E H++aam E' ⟨n,mkH l⟩:=by
  have hr:List.range (n+H.nx)=List.range H.nx++(List.range n).map (H.nx+·):=by rw [Nat.add_comm,List.range_add]
  show(List.range (n+H.nx)).map _=_
  rw [hr,zav,List.map_map];congr 1
  ·refine zae fun i hi=> ?_
   have hi:i<H.nx:=List.mem_range.1 hi;rw [h1 i hi,resOf_ext hag hi (inv.hatok i)]
  ·refine zae fun j hj=> ?_
   rw [Function.comp_apply,Nat.add_comm H.nx j,h2 j]
   have:=resOf_ren (fun i=>if i<H.nx then E i else E' (i-H.nx)) (shB H.nx) j (hnl j)
   rw [hE]at this;exact this.symm
 refine⟨?_,fun i b hb=> ?_,fun i b hb=> ?_⟩
 ·rw [e];exact(inv.hp.callL inv'.hp).perm List.perm_append_comm
 ·show i<n+H.nx;have hb':(abo H.nx H.t l).get i=some b:=hb;rw [abn]at hb';split at hb'
  ·cases hc:(mkH l).get (i-H.nx)with
   |some c=>have:=inv'.lt _ _ hc;have:i-H.nx<n:=this;omega
   |none=>rw [hc]at hb';have:=inv.lt i b hb';omega
  ·have:=inv.lt i b hb';omega
 ·show b.ok (n+H.nx);have hb':(abo H.nx H.t l).get i=some b:=hb;rw [abn]at hb';split at hb'
  ·cases hc:(mkH l).get (i-H.nx)with
   |some c=>
    rw [hc]at hb';cases hb'
    exact HB.ren_up (n:=n) (fun j hj=>by show j+H.nx<n+H.nx;omega) (noLp_ok hl _ (mkH_get hc)) (inv'.ok _ _ hc)
   |none=>rw [hc]at hb';exact HB.up (by omega) (inv.ok i b hb')
  ·exact HB.up (by omega) (inv.ok i b hb')
theorem memoN_ok(hC:Cok C Gp)(hX:Xok C Gp){k:Nat}:∀{l:List AnN},AnsN C k l->aao C Gp (memoN l) k
 |[],_=>fun vs H v H' hv=>by cases hv
 |p::l,⟨⟨n,ha⟩,hl⟩=>by
  intro vs H v H' hv w0 E w hg inv hok;have hv:bi (eqL SV.eqb vs p.1) (some (p.2.1.ren (shB H.nx),(⟨zaj p.2.2.1 H.nx,abo H.nx H.t p.2.2.2⟩:Hs))) (memoN l vs H)=some (v,H'):=hv;rw [aaf]at hv;split at hv
  ·rename_i he;have e:=eqL_ok sve_ok he;cases hv
   subst e;obtain⟨h1,h2⟩:=bb2 ha;obtain⟨h2,h3⟩:=bb2 h2;cases hc:(lev C n).call k p.1 H0 with
   |none=>rw [hc]at h3;cases h3
   |some q=>
    rw [hc]at h3;obtain⟨v,H1⟩:=q;obtain⟨h3,h4⟩:=bb2 (show bi (SV.eqb v p.2.1) (bi (zac H1.nx p.2.2.1) (hlB p.2.2.1 H1.t p.2.2.2) false) false=true from h3);obtain⟨h4,h5⟩:=bb2 h4;have e:v=p.2.1:=sve_ok h3;subst e;have hn:H1.nx=p.2.2.1:=nb h4;have hb:=hlB_ok h5;obtain⟨hE,hr⟩:=(lev_ok hC hX n).call k p.1 H0 p.2.1 H1 hc w E w (hC.gp hg inv.hp) (inv_bare E 0 w) (plV_ok 0 h1);refine⟨hE,CR.mono hr ?_⟩
    rintro V w' ⟨E',g1,g2,g3,g4,rfl⟩
    have inv':Inv w E' ⟨p.2.2.1,mkH p.2.2.2⟩ w':=inv_weak g3 hn.symm fun i b hi=>by
     have:=hb _ (mkH_get hi)
     exact⟨by rw [hn];exact this.1,this.2⟩
    refine⟨fun i=>if i<H.nx then E i else E' (i-H.nx),fun i hi=>if_pos hi,Nat.le_add_left _ _,inv_union inv inv' h2, ?_, ?_⟩
    ·exact SV.ren_up (n:=H1.nx) (fun i hi=>by show i+H.nx<p.2.2.1+H.nx;omega) g4
    ·rw [<-SV.ren_re];congr 1
     funext i
     show _=(if i+H.nx<H.nx then E (i+H.nx)else E' (i+H.nx-H.nx))
     rw [if_neg (by omega),Nat.add_sub_cancel]
  ·exact memoN_ok hC hX hl vs H v H' hv w0 E w hg inv hok
theorem memoN_cx(h:Cok C Gp/\Xok C Gp){k:Nat}{l:List AnN}(ha:AnsN C k l):Cok (C.memoN k l) Gp/\Xok (C.memoN k l) Gp:=by
 obtain⟨hC,hX⟩:=h;refine⟨⟨hC.gp,hC.g,hC.ng,hC.mo,hC.ov⟩, ?_⟩
 intro j f hf;have hf2:bi (zac j k) (some (Ce.memoN l)) (C.X j)=some f:=hf;clear hf;rw [aaf]at hf2;split at hf2
 ·rename_i hj;rw [aad]at hj;have hj:j=k:=hj;subst hj;cases hf2
  exact memoN_ok hC hX ha
 ·exact hX j f hf2
end
end Go.Ce
