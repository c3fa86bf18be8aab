/-
  The law BodiesSingle holds for a message of at most 1048576 letters (part 3 of 6).
-/
import Derived.Test.YtfkbagnbkppmjaaGreatDoorBq2
import Derived.Lib.Join
set_option linter.constructorNameAsVariable false
set_option linter.unusedVariables false
set_option linter.unusedSimpArgs false
set_option linter.constructorNameAsVariable false
namespace Go.Ce
open Go.Wk
open Nat renaming beq -> zaf, ble -> zah, blt -> zar, le_refl -> zab, le_trans -> zax
open Option renaming rec -> zae
section
variable {C : Cx} {Gp : World -> Prop} {m : M} {S S' : T} {w0 w : World} {E E' : En} {K : Ks} {H : Hs}
def updO(F:Nat->Value):Option Nat->Value->Nat->Value
 |none,_=>F
 |some d,V=>Wk.upd F d V
theorem dset_rF(E:En)(F:Tr SV)(d:Option Nat)(v:SV):rF E (dset F d v)=updO (rF E F) d (v.re E):=by
 cases d with
 |none=>rfl
 |some d=>exact rF_set E F d v
theorem at_dset(h:At C Gp m S w0 E w){H':Hs}{w':World}(ha:Ag S.H.nx E E')(hn:S.H.nx<=H'.nx)(hi:Inv w0 E' H' w')(d:Option Nat){v:SV}(hv:v.ok H'.nx):At C Gp m ⟨dset S.F d v,H',S.D⟩ w0 E' w':=by
 cases d with
 |none=>exact at_same h ha hn hi
 |some d=>exact at_set h ha hn hi d hv
theorem call_wd(hC:Cok C Gp)(hK:KsOk C Gp K)(h:At C Gp m S w0 E w){ops:Array Oper}{o:Oper}{f:Operand}{args:Array Operand}(hg:o.guard=none)(hc:isCall o.op=some (f,args))
  {v:SV} {H':Hs} (hv:callE K m S f args o.dst.isSome=some (v,H')):Wd C Gp m ops S ⟨dset S.F o.dst v,H',S.D⟩ w0 E w o:=by
 intro rest Q hk;obtain⟨ats,hop⟩:=gok_call hc;obtain⟨d,op,ty,pos,after,gd⟩:=o;simp only at hop hg;subst hop;subst hg;obtain⟨vs,h1,hv⟩:=aaa hv;obtain⟨g,h2,hv⟩:=aaa hv;obtain⟨h3,h4⟩:=evL_ok (h.sd hC) h1;obtain⟨h5,h6⟩:=abo (h.sd hC) h2;have hargs:args.map (evn (aeo E m S.D) (rF E S.F))=(vs.map (SV.re E)).toArray:=by
  rw [<-h3];exact Array.toList_inj.1 (by rw [Array.toList_map])
 have go:∀(V:Value) (w':World),Post S.H H' w0 E v V w'->Go.Wk.W C.P (aeo E m S.D) ops Q rest (updO (rF E S.F) d V) w':=by
  rintro V w' ⟨E',g1,g2,g3,g4,rfl⟩
  have hq:Go.Wk.W C.P (aeo E m S.D) ops Q rest (rF E' (dset S.F d v)) w':=hk E' w' g1 g2 (at_dset h g1 g2 g3 d g4);rw [dset_rF,rF_ext g1 h.fok]at hq;exact hq
 cases g with
 |fn k cs=>
  have hv':K.call k (lapp vs (ptrs cs)) S.H=some (v,H'):=hv;obtain⟨p1,p2⟩:=ptrs_ok (k:=S.H.nx) E (l:=cs) h6;rw [afh]at hv';obtain⟨hE,hcr⟩:=hK.call k _ _ _ _ hv' w0 E w h.gp h.inv (fun x hx=>by
   rcases List.mem_append.1 hx with hx|hx
   ·exact h4 x hx
   ·exact p2 x hx)
  have ha: #[]++args.map (evn (aeo E m S.D) (rF E S.F))++(cs.map fun i=>Value.pointer (some ⟨(E i).1,0,none⟩)).toArray=((vs++ptrs cs).map (SV.re E)).toArray:=by
   rw [hargs,List.map_append,p1];simp
  cases d with
  |none=>exact w_call0 k _ _ _ hE h5 ha hcr fun V w' hp=>go V w' hp
  |some d=>exact acv k _ _ _ hE h5 ha hcr fun V w' hp=>go V w' hp
 |y i=>
  obtain⟨hds,hv'⟩:=aac (show bi d.isSome (bi m.m.isSome (yieldE K.run i vs S.H) none) none=some (v,H')from hv);obtain⟨h7,hv'⟩:=aac hv';have hy:=yield_ok hK.run hv' h.gp h.inv h4;obtain⟨mn,mm⟩:=m;cases mm with
  |none=>cases h7
  |some mm=>
   have ha: #[]++args.map (evn (aeo E ⟨mn,some mm⟩ S.D) (rF E S.F))++ #[]=(vs.map (SV.re E)).toArray:=by rw [hargs];simp
   cases d with
   |some d=>exact w_yield (E i).1 _ _ h5 ha hy fun V w' hp=>go V w' hp
   |none=>cases hds
 |_=>cases hv
theorem asF_ok{x:SC}{k:Nat}(h:x.asF=some k):x=.fn k []:=by
 cases x with
 |fn f l=>
  obtain⟨h1,h2⟩:=aac (show bi l.isEmpty (some f) none=some k from h);cases h2
  cases l with
  |nil=>rfl
  |cons a l=>cases h1
 |_=>cases h
theorem owns_ne(h:Inv w0 E H w){i j:Nat}{b b':HB}(hi:H.t.get i=some b)(hj:H.t.get j=some b')(hij:i≠j){x:Nat}(h1:(resOf E i b).own=some x):(resOf E j b').own≠some x:=by
 have hp:=h.hp.sep;have e1:=h.at hi;have e2:=h.at hj;have l1:=(List.getElem?_eq_some_iff.1 e1).1;have l2:=(List.getElem?_eq_some_iff.1 e2).1;rw [List.pairwise_iff_getElem]at hp;rw [List.getElem?_eq_getElem l1]at e1;rw [List.getElem?_eq_getElem l2]at e2;have e1:=Option.some.inj e1;have e2:=Option.some.inj e2;rcases Nat.lt_or_gt_of_ne hij with hlt|hlt
 ·have:=hp i j l1 l2 hlt x
  rw [e1,e2]at this;exact this h1
 ·have:=hp j i l2 l1 hlt x
  rw [e1,e2]at this;exact fun h2=>this h2 h1
theorem ovl_run(hC:Cok C Gp)(h:At C Gp m S w0 E w){o:Oper}{f:Operand}{args:Array Operand}{v:SV}(hc:isCall o.op=some (f,args))(hv:ovlE C m S f args=some v):
  (execOp (evn (aeo E m S.D) (rF E S.F)) o).run C.P w=.ok (.value (v.re E)) w/\v.ok S.H.nx:=by
 have hsd:=h.sd hC;obtain⟨ats,hop⟩:=gok_call hc;unfold ovlE at hv;split at hv
 ·rename_i x y hxy;obtain rfl:=afq hxy;obtain⟨g,h1,hv⟩:=aaa hv;obtain⟨k,h2,hv⟩:=aaa hv;obtain⟨h3,hv⟩:=aac hv;obtain⟨a,h4,hv⟩:=aaa hv;obtain⟨b,h5,hw⟩:=aaa hv;clear hv;obtain rfl:=asF_ok h2;have hf:evn (aeo E m S.D) (rF E S.F) f=.func (.func k) #[] #[]:=(abo hsd h1).1;have hx:=(abo hsd h4).1;have hy:=(abo hsd h5).1;obtain⟨fn,tS,tR,e,sz,f1,f2,f3,f4,f5,f6⟩:=hC.ov k h3;have hng:=hC.ng k fn f1;obtain⟨i,h6,hw1⟩:=aaa hw;clear hw;obtain⟨base,nn,c,rfl⟩:=asL_ok h6;have hz:∀w,(sizeOf e).run C.P w=.ok sz w:=fun w=>agl f6 w
  have key:(Extern.SlicesOverlaps.overlaps #[tS,tS] #[tR] #[(SC.sl i base nn c).re E,b.re E]).run C.P w=.ok (.bool false) w->v=.c (.b false)->(execOp (evn (aeo E m S.D) (rF E S.F)) o).run C.P w=.ok (.value (v.re E)) w/\v.ok S.H.nx:=by
   rintro hr rfl
   refine⟨?_,trivial⟩
   unfold execOp;rw [hop];have hrf:∀t,(resolve (evn (aeo E m S.D) (rF E S.F)) ⟨.value f, #[x,y],ats⟩ t)=Deferred.ofValue (.func (.func k) #[] #[]) #[(SC.sl i base nn c).re E,b.re E]:=by
    intro t;simp [resolve,hf,hx,hy]
   simp only [hrf];have hng' : ¬ fn.name = "runtime.NumGoroutine" := by simpa using hng
   generalize(SC.sl i base nn c).re E=X at hr
   generalize b.re E=Y at hr;have e1:SV.re E (.c (.b false))=.bool false:=rfl;simp [Deferred.ofValue,invoke,callFunc,f1,hng',f2,f3,f4,hr,e1]
  cases hb:b.asL with
  |none=>
   rw [hb]at hw1;obtain⟨h7,hw1⟩:=aac (show bi b.isZ (some (SV.c (.b false))) none=some v from hw1);cases hw1
   cases b with
   |z j base' dd off=>
    refine key ?_ rfl
    show(Extern.SlicesOverlaps.overlaps #[tS,tS] #[tR] #[.slice (some ⟨(E i).1,base,none⟩) nn (c.re E i),.slice (some ⟨(E j).1,if(E j).2-off=0 then base' else base'+dd,none⟩) 0 ((E j).2-off)]).run C.P w=.ok (.bool false) w
    generalize(⟨(E i).1,base,none⟩:Addr)=a1
    generalize(⟨(E j).1,if(E j).2-off=0 then base' else base'+dd,none⟩:Addr)=b1
    change Sem.run C.P (α:=Value) (do
     let some t := (#[tS, tS] : Array TypeId)[0]? | stuck "slices.overlaps: no parameter types"
     let .slice elem <- underlying t | stuck "slices.overlaps: slice type expected"
     let size<-sizeOf elem
     match(some a1:Option Addr),(some b1:Option Addr)with
     |some a,some b=>
      if nn=0\/0=0\/size=0 then pure (Value.bool false)
      else if a.block !=b.block&&(<-frozen a)&&(<-frozen b)then unsupported .addressObserved
      else do
       if a.block !=b.block then do
        noView a;noView b
        if <- mayBeOne a b then return Value.bool ((<- choose (.extern "sameAddr.stringBytes" 2)) == 1)
       pure (Value.bool (a.block==b.block&&a.off<b.off+0*size&&b.off<a.off+nn*size))
     |_,_=>pure (Value.bool false)) w=_
    simp [run_underlying f5,hz]
   |_=>cases h7
  |some j=>
   rw [hb]at hw1;obtain⟨base',n',c',rfl⟩:=asL_ok hb;have hw1:bi (zaf i j) none (ob (S.H.t.get i) fun p=>ob p.asC fun q=>bi (Mo.rec true (fun _ _=>false) false false q.2.1) (ob (S.H.t.get j) fun p'=>ob p'.asC fun q'=>bi (zah 1 (aey q'.2.2)) (some (SV.c (.b false))) none) none)=some v:=hw1;rw [aat]at hw1;split at hw1
   ·cases hw1
   rename_i hij;rw [aah]at hij;obtain⟨p,h8,hw1⟩:=aaa hw1;obtain⟨q,h9,hw1⟩:=aaa hw1;obtain⟨h10,hw1⟩:=aac hw1;obtain⟨p',h11,hw1⟩:=aaa hw1;obtain⟨q',h12,hw1⟩:=aaa hw1;obtain⟨h13,hw1⟩:=aac hw1;have hfin:v=.c (.b false):=(Option.some.inj hw1).symm;rw [aae,aaz]at h13;obtain⟨t1,md,xs⟩:=q;obtain⟨t2,md2,ys⟩:=q';rw [hbC_ok h9]at h8;rw [hbC_ok h12]at h11;cases md with
   |ex=>
    obtain⟨cur,ta,fz,c1,c2,c3,c4,c5⟩:=h.inv.cells h8;obtain⟨cur2,tb,fz2,d1,d2,d3,d4,d5⟩:=h.inv.cells h11;have hne:(E i).1≠(E j).1:=fun e=>owns_ne h.inv h8 h11 hij (x:=(E i).1) rfl (by show some (E j).1=_;rw [e])
    have hfz:fz=(0,0):=c5.2;subst hfz;refine key ?_ hfin;have h13':1<=ys.length:=h13;have d3':ys.length<=cur2.size:=d3;exact Lib.run_overlaps_apart w tS tR e f5 sz hz ⟨(E i).1,base,none⟩ ⟨(E j).1,base',none⟩ nn (c.re E i) n' (c'.re E j) hne ta tb cur.size cur2.size (by simp [World.shape?,c1]) (by simp [World.shape?,d1]) (by omega) (by simp [World.frozen?,c1]) (by simp [World.frozen?,c1])
   |_=>cases h10
 ·cases hv
theorem op1_wd(hC:Cok C Gp)(hK:KsOk C Gp K)(h:At C Gp m S w0 E w){ops:Array Oper}{o:Oper}(hg:o.guard=none)(hv:op1 C K m S o=some S'):Wd C Gp m ops S S' w0 E w o:=by
 unfold op1 at hv;cases hc:isCall o.op with
 |none=>rw [hc]at hv;exact opO_wd hC h hg hv
 |some c=>
  rw [hc]at hv;cases ho:ovlE C m S c.1 c.2 with
  |none=>
   have hv:(zae (ob (callE K m S c.1 c.2 o.dst.isSome) fun r=>some (⟨dset S.F o.dst r.1,r.2,S.D⟩:T)) (fun v=>ob o.dst fun d=>some ⟨S.F.set d v,S.H,S.D⟩) (ovlE C m S c.1 c.2):Option T)=some S':=hv;rw [ho]at hv;obtain⟨⟨v,H'⟩,h1,hv⟩:=aaa hv;cases hv
   exact call_wd hC hK h hg hc h1
  |some v=>
   have hv:(zae (ob (callE K m S c.1 c.2 o.dst.isSome) fun r=>some (⟨dset S.F o.dst r.1,r.2,S.D⟩:T)) (fun v=>ob o.dst fun d=>some ⟨S.F.set d v,S.H,S.D⟩) (ovlE C m S c.1 c.2):Option T)=some S':=hv;rw [ho]at hv;obtain⟨d,h2,hv⟩:=aaa hv;cases hv
   intro rest Q hk;obtain⟨f,args⟩:=c;obtain⟨g5,g6⟩:=ovl_run hC h hc ho;refine abw hg h2 g5 ?_;have hq:Go.Wk.W C.P (aeo E m S.D) ops Q rest (rF E (S.F.set d v)) w:=hk E w (Ag.refl _ _) (zab _) (at_set h (Ag.refl _ _) (zab _) h.inv d g6);rw [rF_set]at hq;exact hq
theorem op1_nog(o:Oper)(g:Option (Nat×Bool)):op1 C K m S {o with guard:=g}=op1 C K m S o:=by
 obtain⟨d,op,ty,pos,after,gd⟩:=o;unfold op1 opO;cases op<;>rfl
theorem gval_ok{v:SV}{b r:Bool}(h:gval v b=some r)(E:En):(v.re E=.bool b/\r=true)\/(v.re E=.bool (!b)/\r=false)\/(v=.u/\r=false):=by
 cases v with
 |c x=>
  obtain⟨t,h1,h⟩:=aaa (show(ob x.asB fun t=>some (bi t b (inot b)))=some r from h);cases h
  obtain rfl:=asB_ok h1;cases t<;>cases b<;>simp [bi,inot,SV.re,SC.re]
 |u=>cases h;exact .inr (.inr ⟨rfl,rfl⟩)
 |a l=>cases h
 |t l=>cases h
theorem opG_wd(hC:Cok C Gp)(hK:KsOk C Gp K)(h:At C Gp m S w0 E w){ops:Array Oper}{o:Oper}(hv:opG C K m ops S o=some S'):Wd C Gp m ops S S' w0 E w o:=by
 obtain⟨dst,op,ty,pos,after,gd⟩:=o;unfold opG at hv;cases gd with
 |none=>exact op1_wd hC hK h rfl hv
 |some q=>
  obtain⟨g,b⟩:=q;obtain⟨dg,h1,hv⟩:=aaa hv;obtain⟨d,h2,hv⟩:=aaa hv;obtain⟨h3,hv⟩:=aac hv;obtain⟨r,h4,hv⟩:=aaa hv;have h2':dst=some d:=h2;subst h2';have e1:oget (S.F.get dg)=tv S.F dg:=tv_rec S.F dg;rw [e1]at h4;have hblt:zar dg (aeo E m S.D).n=true:=h3;intro rest Q hk;rcases gval_ok h4 E with⟨hb,rfl⟩|⟨hb,rfl⟩|⟨hb,rfl⟩
  ·refine w_gyes dg h1 hblt hb ?_;have hv':op1 C K m S (⟨some d,op,ty,pos,after,none⟩:Oper)=some S':=by
    rw [<-op1_nog _ (some (g,b))];exact hv
   exact op1_wd hC hK h rfl hv' rest Q hk
  ·cases hv
   refine w_gno dg h1 hblt hb ?_;have hq:Go.Wk.W C.P (aeo E m S.D) ops Q rest (rF E (S.F.set d .u)) w:=hk E w (Ag.refl _ _) (zab _) (at_set h (Ag.refl _ _) (zab _) h.inv d (v:=.u) trivial);rw [rF_set]at hq;exact hq
  ·cases hv
   have hu:rF E S.F dg=undef:=by
    show(tv S.F dg).re E=_
    rw [hb];rfl
   refine w_gun dg h1 hblt hu ?_;have hq:Go.Wk.W C.P (aeo E m S.D) ops Q rest (rF E (S.F.set d .u)) w:=hk E w (Ag.refl _ _) (zab _) (at_set h (Ag.refl _ _) (zab _) h.inv d (v:=.u) trivial);rw [rF_set]at hq;exact hq
theorem opG_D{ops:Array Oper}{o:Oper}(hv:opG C K m ops S o=some S'):S'.D=S.D:=by
 have h1:∀S',op1 C K m S o=some S'->S'.D=S.D:=by
  intro S' hv;unfold op1 at hv;cases hc:isCall o.op with
  |none=>
   rw [hc]at hv;obtain⟨r,_,hv⟩:=aaa (show opO C m S o=some S' from hv);obtain⟨r1,H'⟩:=r;cases r1 with
   |none=>
    obtain⟨_,hv⟩:=aac (show bi o.dst.isNone (some (⟨S.F,H',S.D⟩:T)) none=some S' from hv);cases hv;rfl
   |some v=>
    have hv2:(zae (motive:=fun _=>Option T) (some ⟨S.F,H',S.D⟩) (fun d=>some ⟨S.F.set d v,H',S.D⟩) o.dst)=some S':=hv;clear hv;cases hd:o.dst with
    |none=>rw [hd]at hv2;rw [<-Option.some.inj hv2]
    |some d=>rw [hd]at hv2;rw [<-Option.some.inj hv2]
  |some c=>
   rw [hc]at hv;have hv2:(zae (ob (callE K m S c.1 c.2 o.dst.isSome) fun r=>some (⟨dset S.F o.dst r.1,r.2,S.D⟩:T)) (fun v=>ob o.dst fun d=>some ⟨S.F.set d v,S.H,S.D⟩) (ovlE C m S c.1 c.2):Option T)=some S':=hv;clear hv;cases ho:ovlE C m S c.1 c.2 with
   |none=>
    rw [ho]at hv2;obtain⟨_,_,hv⟩:=aaa hv2;cases hv;rfl
   |some v=>
    rw [ho]at hv2;obtain⟨_,_,hv⟩:=aaa hv2;cases hv;rfl
 unfold opG at hv;cases hg:o.guard with
 |none=>rw [hg]at hv;exact h1 S' hv
 |some q=>
  rw [hg]at hv;obtain⟨_,_,hv⟩:=aaa hv;obtain⟨_,_,hv⟩:=aaa hv;obtain⟨_,hv⟩:=aac hv;obtain⟨r,_,hv⟩:=aaa hv;cases r with
  |true=>exact h1 S' hv
  |false=>cases hv;rfl
theorem opsE_ok(hC:Cok C Gp)(hK:KsOk C Gp K){ops:Array Oper}:∀(l:List Oper) (S S':T) (E:En) (w:World),At C Gp m S w0 E w->opsE C K m ops l S=some S'->∀Q:Exit->Act->World->Prop,
  Then C Gp m S S' w0 E (fun E' w'=>Q .normal (fr (aeo E' m S'.D) (rF E' S'.F)) w')->Go.Wk.W C.P (aeo E m S.D) ops Q l (rF E S.F) w
 |[],S,S',E,w,h,hv,Q,hk=>by
  have e:S=S':=Option.some.inj hv;subst e;exact w_nil (hk E w (Ag.refl _ _) (zab _) h)
 |o::l,S,S',E,w,h,hv,Q,hk=>by
  obtain⟨S1,h1,hv⟩:=aaa (show ob (opG C K m ops S o) (opsE C K m ops l)=some S' from hv);refine opG_wd hC hK h h1 l Q ?_;intro E1 w1 a1 n1 at1;have hd:=opG_D h1
  have:=opsE_ok hC hK l S1 S' E1 w1 at1 hv Q (fun E2 w2 a2 n2 at2=>hk E2 w2 (a1.trans a2 n1) (zax n1 n2) at2)
  rw [hd,mdOf_ext a1 h.m h.d]at this;exact this
theorem np_seqA{P:Program}{n:Md}{y:Code}{Q:Exit->Act->World->Prop}(h:NoP Q):NoP (SeqQ P n y Q):=by unfold SeqQ;exact h
theorem onX_some{r:RT}{nm rt:T->RT}{xt:Nat->T->RT}{v:Ex×T}(h:onX r nm rt xt=some v):∃e S,r=some (e,S)/\((e=.nm/\nm S=some v)\/(e=.rt/\rt S=some v)\/∃id,e=.xt id/\xt id S=some v):=by
 cases r with
 |none=>cases h
 |some p=>
  obtain⟨e,S⟩:=p;refine⟨e,S,rfl, ?_⟩
  cases e with
  |nm=>exact .inl ⟨rfl,h⟩
  |rt=>exact .inr (.inl ⟨rfl,h⟩)
  |xt id=>exact .inr (.inr ⟨id,rfl,h⟩)
theorem afc{S1:T}{Q:En->World->Prop}(hk:Then C Gp m S S' w0 E Q){E1:En}(a1:Ag S.H.nx E E1)(n1:S.H.nx<=S1.H.nx):Then C Gp m S1 S' w0 E1 Q:=
 fun E2 w2 a2 n2 at2=>hk E2 w2 (a1.trans a2 n1) (zax n1 n2) at2
theorem run_skip{c:Code}(hc:c=.skip\/∃l,c=.label l):afn C Gp (fun m S=>eSkip K m S) c:=by
 intro m S e S' hv w0 E w Q h hq hk;cases hv
 have:=hk E w (Ag.refl _ _) (zab _) h
 rcases hc with rfl|⟨l,rfl⟩
 ·exact c_skip this
 ·exact c_label this
theorem run_exit{id:Nat}:afn C Gp (fun m S=>eExit id K m S) (.exit id):=by
 intro m S e S' hv w0 E w Q h hq hk;cases hv
 exact afb (hk E w (Ag.refl _ _) (zab _) h)
theorem run_ret:afn C Gp (fun m S=>eRet K m S) .ret:=by
 intro m S e S' hv w0 E w Q h hq hk;cases hv
 exact c_ret (hk E w (Ag.refl _ _) (zab _) h)
theorem run_cond{c:Operand}{x y:Code}{a b:Ef}(hC:Cok C Gp)(ha:afn C Gp (fun m S=>a K m S) x)(hb:afn C Gp (fun m S=>b K m S) y):afn C Gp (fun m S=>eCond c x y a b K m S) (.cond c x y):=by
 intro m S e S' hv w0 E w Q h hq hk;obtain⟨v,h1,hv⟩:=aaa hv;obtain⟨t,h2,hv⟩:=aaa hv;obtain rfl:=asB_ok h2;have hx:evn (aeo E m S.D) (rF E S.F) c=.bool t:=(abo (h.sd hC) h1).1;cases t with
 |true=>exact c_true hx (ha m S e S' hv w0 E w Q h hq hk)
 |false=>exact c_false hx (hb m S e S' hv w0 E w Q h hq hk)
theorem run_block{id:Nat}{x:Code}{a:Ef}(ha:afn C Gp (fun m S=>a K m S) x):afn C Gp (fun m S=>eBlock id x a K m S) (.block id x):=by
 intro m S e S' hv w0 E w Q h hq hk;obtain⟨e1,S1,h1,h2⟩:=onX_some hv;refine c_block (ha m S e1 S1 h1 w0 E w _ h (np_block hq) ?_);intro E1 w1 a1 n1 at1;rcases h2 with⟨rfl,h2⟩|⟨rfl,h2⟩|⟨i,rfl,h2⟩
 ·cases h2;exact b_normal (hk E1 w1 a1 n1 at1)
 ·cases h2;exact b_ret (hk E1 w1 a1 n1 at1)
 ·rw [aat]at h2;split at h2
  ·rename_i hi;rw [aah]at hi;subst hi;cases h2
   exact afi (hk E1 w1 a1 n1 at1)
  ·rename_i hi;cases h2
   refine b_past ?_ (hk E1 w1 a1 n1 at1);cases hx:zaf i id with
   |false=>rfl
   |true=>exact absurd hx hi
theorem run_scope{x:Code}{a:Ef}(ha:afn C Gp (fun m S=>a K m S) x):afn C Gp (fun m S=>eScope x a K m S) (.scope x):=by
 intro m S e S' hv w0 E w Q h hq hk;obtain⟨h1,hv⟩:=aac hv;obtain⟨mn,mm⟩:=m;cases mm with
 |some _=>cases h1
 |none=>
  refine c_scope (ha _ S e S' hv w0 E w _ h (np_scope hq) ?_);intro E1 w1 a1 n1 at1
  have:=hk E1 w1 a1 n1 at1
  cases e with
  |nm=>exact n_normal this
  |rt=>exact n_ret this
  |xt id=>exact n_exit this
theorem run_seq{x y:Code}{a b:Ef}(ha:afn C Gp (fun m S=>a K m S) x)(hb:afn C Gp (fun m S=>b K m S) y):afn C Gp (fun m S=>eSeq x y a b K m S) (.seq x y):=by
 intro m S e S' hv w0 E w Q h hq hk;obtain⟨e1,S1,h1,h2⟩:=onX_some hv;refine c_seq (ha m S e1 S1 h1 w0 E w _ h (np_seqA hq) ?_);intro E1 w1 a1 n1 at1;rcases h2 with⟨rfl,h2⟩|⟨rfl,h2⟩|⟨i,rfl,h2⟩
 ·have:=hb m S1 e S' h2 w0 E1 w1 Q at1 hq (afc hk a1 n1)
  have hr:ro E1 m=ro E m:=ro_ext a1 h.m;unfold aeo at this⊢;rw [hr]at this⊢;exact q_next this
 ·cases h2;exact s_ret (hk E1 w1 a1 n1 at1)
 ·cases h2;exact aff (hk E1 w1 a1 n1 at1)
theorem run_region{id:Nat}{ops:Array Oper}{d:Bool}(hC:Cok C Gp)(hK:KsOk C Gp K) (hd:∀m S S',drawE C K m ops S=some S'->∀w0 E w (Q:Exit->Act->World->Prop),At C Gp m S w0 E w->NoP Q->
  Then C Gp m S S' w0 E (fun E' w'=>Q .normal (fr (aeo E' m S'.D) (rF E' S'.F)) w')->Go.Wk.C C.P (aeo E m S.D) Q (.region id ops true) (rF E S.F) w):afn C Gp (fun m S=>eRegion C id ops d K m S) (.region id ops d):=by
 intro m S e S' hv w0 E w Q h hq hk;cases d with
 |true=>
  obtain⟨S1,h1,hv⟩:=aaa (show(ob (drawE C K m ops S) kNm)=some (e,S')from hv);cases hv
  exact hd m S S' h1 w0 E w Q h hq hk
 |false=>
  obtain⟨S1,h1,hv⟩:=aaa (show(ob (opsE C K m ops ops.toList S) kNm)=some (e,S')from hv);cases hv
  obtain⟨l⟩:=ops;exact aeh (opsE_ok hC hK l S S' E w h h1 Q hk)
end
open Go.Wk
open Go.Value renaming func -> zam
open List renaming map_congr_left -> zas, map_cons -> zav, mem_cons_self -> zat
open Nat renaming beq -> zaf, le_trans -> zax
def LB(P:Program)(n:Md)(Q:Exit->Act->World->Prop)(c:Code)(F:Nat->Value)(w:World):Prop:=
 match n.ro with
 |none=>∀(b:Frame) (k:List Item) (cs:List Frame),∃e a' w',Q e a' w'/\Arrives P (lone (b.at (fr n F) (.code c::.inLoop c::k)) cs w) b k cs e a' w'
 |some x=>∀(b:Frame) (k:List Item) (cs:List Frame),b.roundOf=(fen x).round->(fen x).fn b.fn->(fen x).room (cs.length+1+0)->
   ∃e a' w',Q e a' w'/\ArrivesIn (Machine.fenced P (fen x)) P (lone (b.atR (fr n F) (.code c::.inLoop c::k)) cs w) b k cs e a' w'
theorem lb_loop{P:Program}{n:Md}{Q:Exit->Act->World->Prop}{c:Code}{F:Nat->Value}{w:World}(h:LB P n Q c F w):Go.Wk.C P n Q (.loop c) F w:=by
 obtain⟨nn,D,ro⟩:=n;cases ro with
 |none=>
  unfold Go.Wk.C CC;intro b kk cs;obtain⟨e,a',w',hq,harr⟩:=h b kk cs;exact⟨e,a',w',hq,.of_steps (.one step_loop) harr⟩
 |some x=>
  unfold Go.Wk.C CC;intro b kk cs hro hb hr;obtain⟨e,a',w',hq,harr⟩:=h b kk cs hro hb hr;exact⟨e,a',w',hq,.of_steps (.one (fenced_calm hb hr rfl) stepR_loop) harr⟩
theorem lb_step{P:Program}{n:Md}{Q:Exit->Act->World->Prop}{c:Code}{F:Nat->Value}{w:World}
  (h:Go.Wk.C P n (Exit.then (fun a' w'=>∃F',a'=fr n F'/\LB P n Q c F' w') Q) c F w):LB P n Q c F w:=by
 obtain⟨nn,D,ro⟩:=n;cases ro with
 |none=>
  unfold Go.Wk.C CC at h;intro b kk cs;obtain⟨e,a₁,w₁,hq,harr⟩:=h b (.inLoop c::kk) cs;cases e with
  |normal=>
   obtain⟨F',rfl,hlb⟩:=hq;obtain⟨e₂,a₂,w₂,hq₂,harr₂⟩:=hlb b kk cs;exact⟨e₂,a₂,w₂,hq₂,.of_steps (Steps.trans harr (.one step_inLoop)) harr₂⟩
  |exit id=>exact⟨_,a₁,w₁,hq,.pass (x:=.inLoop c) rfl (fun _ _=>.inl (by simp)) harr⟩
  |goto l=>exact⟨_,a₁,w₁,hq,.pass (x:=.inLoop c) rfl (fun _ _=>.inl (by simp)) harr⟩
  |ret=>exact⟨_,a₁,w₁,hq,.pass (x:=.inLoop c) rfl (fun _ _=>.inl (by simp)) harr⟩
  |panic ch=>exact⟨_,a₁,w₁,hq,.pass (x:=.inLoop c) rfl (fun _ _=>.inl (by simp)) harr⟩
  |outgrown=>exact⟨_,a₁,w₁,hq,.pass (x:=.inLoop c) rfl (fun _ _=>.inl (by simp)) harr⟩
 |some x=>
  unfold Go.Wk.C CC at h;intro b kk cs hro hb hr;obtain⟨e,a₁,w₁,hq,harr⟩:=h b (.inLoop c::kk) cs hro hb hr;cases e with
  |normal=>
   obtain⟨F',rfl,hlb⟩:=hq;obtain⟨e₂,a₂,w₂,hq₂,harr₂⟩:=hlb b kk cs hro hb hr;exact⟨e₂,a₂,w₂,hq₂,.of_steps (StepsIn.trans harr (.one (fenced_calm hb hr rfl) stepR_inLoop)) harr₂⟩
  |exit id=>exact⟨_,a₁,w₁,hq,.pass (x:=.inLoop c) rfl (fun _ _=>.inl (by simp)) harr⟩
  |goto l=>exact⟨_,a₁,w₁,hq,.pass (x:=.inLoop c) rfl (fun _ _=>.inl (by simp)) harr⟩
  |ret=>exact⟨_,a₁,w₁,hq,.pass (x:=.inLoop c) rfl (fun _ _=>.inl (by simp)) harr⟩
  |panic ch=>exact⟨_,a₁,w₁,hq,.pass (x:=.inLoop c) rfl (fun _ _=>.inl (by simp)) harr⟩
  |outgrown=>exact⟨_,a₁,w₁,hq,.pass (x:=.inLoop c) rfl (fun _ _=>.inl (by simp)) harr⟩
section
variable {C : Cx} {Gp : World -> Prop} {m : M} {S S' : T} {w0 w : World} {E E' : En} {K : Ks} {H : Hs}
theorem oeq_ok{a b:Option Nat}(h:oeq a b=true):a=b:=by
 cases a with
 |none=>cases b with
  |none=>rfl
  |some y=>cases h
 |some x=>cases b with
  |none=>cases h
  |some y=>
   have h':zaf x y=true:=h;rw [aah]at h';rw [h']
theorem rounds_ok{x:Code}{a:Ef}(ha:afn C Gp (fun m S=>a K m S) x):∀(f:Nat) (m:M) (S:T) (e:Ex) (S':T),rounds a f K m S=some (e,S')->∀w0 E w Q,At C Gp m S w0 E w->NoP Q->
  Then C Gp m S S' w0 E (fun E' w'=>Q (exr e) (fr (aeo E' m S'.D) (rF E' S'.F)) w')->LB C.P (aeo E m S.D) Q x (rF E S.F) w
 |0,m,S,e,S',hv,w0,E,w,Q,h,hq,hk=>by cases hv
 |f+1,m,S,e,S',hv,w0,E,w,Q,h,hq,hk=>by
  obtain⟨e1,S1,h1,h2⟩:=onX_some (show onX (a K m S) (fun S1=>bi (oeq S.D S1.D) (rounds a f K m S1) none) kRt kXt=some (e,S')from hv);refine lb_step (ha m S e1 S1 h1 w0 E w _ h (afu hq) ?_);intro E1 w1 a1 n1 at1;rcases h2 with⟨rfl,h2⟩|⟨rfl,h2⟩|⟨i,rfl,h2⟩
  ·obtain⟨h3,h2⟩:=aac h2;have hD:=oeq_ok h3;have hm:aeo E1 m S1.D=aeo E m S.D:=by rw [<-hD];exact mdOf_ext a1 h.m h.d
   have:=rounds_ok ha f m S1 e S' h2 w0 E1 w1 Q at1 hq (afc hk a1 n1)
   rw [hm]at this⊢;exact q_loop ⟨_,rfl,this⟩
  ·cases h2;exact q_ret (hk E1 w1 a1 n1 at1)
  ·cases h2;exact afo (hk E1 w1 a1 n1 at1)
theorem run_loop{x:Code}{a:Ef}(ha:afn C Gp (fun m S=>a K m S) x):afn C Gp (fun m S=>eLoop x a K m S) (.loop x):=
 fun m S e S' hv w0 E w Q h hq hk=>lb_loop (rounds_ok ha FU m S e S' hv w0 E w Q h hq hk)
theorem c_rangeFunc'{P:Program}{k:Nat}{Q:Exit->Act->World->Prop}{F:Nat->Value}{L:List Res}{g:Operand}{ps:Array Tmp}{assign body:Code}(hH:Hp w0 [] L w)(f:Nat)(cap:List Value)(hg:evn ⟨k,[],some none⟩ F g=.func (.func f) #[] cap.toArray)
  (hc:∀rc:Loop,rc.assign=assign->rc.body=body->rc.params=ps->rc.tmps=(fr ⟨k,[],some none⟩ F).tmps->∀w2,Hp w0 [] (lrec (w.heap.size+1) 0 rc::dfr w.heap.size::L) w2->
   Enters P f/\CR P f (.func (.yield (w.heap.size+1)) #[] #[]::cap) w2 fun _ w3=>∃j rc' L3,Hp w0 [] (lrec (w.heap.size+1) j rc'::L3) w3/\∀w4,Hp w0 [] L3 w4->RgQ P k w.heap.size Q F j w4):
  Go.Wk.C P ⟨k,[],some none⟩ Q (.rangeFunc g ps assign body) F w:=by
 unfold Go.Wk.C CC;refine wpIn_rangeFunc fun fn _=> ?_
 have hH1:=hH.allocR (.deferred (some [])) (dfr w.heap.size) rfl rfl;have hH2:=hH1.allocR (.loop {state:=.ready,pending:=none,fn:=fn,tmps:=(fr ⟨k,[],some none⟩ F).tmps,params:=ps,assign:=assign,body:=body,defers:=w.heap.size}) (lrec (w.heap.size+1) 0 {state:=.ready,pending:=none,fn:=fn,tmps:=(fr ⟨k,[],some none⟩ F).tmps,params:=ps,assign:=assign,body:=body,defers:=w.heap.size}) (by simp [lrec]) rfl;obtain⟨hE,hc⟩:=hc _ rfl rfl rfl rfl _ hH2;refine⟨w.heap.size+1,[Go.Wk.mark w.heap.size],((w.alloc (.deferred (some []))).alloc (.loop {state:=.ready,pending:=none,fn:=fn,tmps:=(fr ⟨k,[],some none⟩ F).tmps,params:=ps,assign:=assign,body:=body,defers:=w.heap.size})),{target:=.fn (.func f) cap.toArray,args:= #[]++ #[.func (.yield (w.heap.size+1)) #[] #[]]},((w.alloc (.deferred (some []))).alloc (.loop {state:=.ready,pending:=none,fn:=fn,tmps:=(fr ⟨k,[],some none⟩ F).tmps,params:=ps,assign:=assign,body:=body,defers:=w.heap.size})),f,(zam (.yield (w.heap.size+1)) #[] #[]::cap).toArray,((w.alloc (.deferred (some []))).alloc (.loop {state:=.ready,pending:=none,fn:=fn,tmps:=(fr ⟨k,[],some none⟩ F).tmps,params:=ps,assign:=assign,body:=body,defers:=w.heap.size})),run_enterLoop_outer fn _ _ _ _, ?_,fun _ _=>trivial, ?_,fun h=>absurd h Bool.false_ne_true, ?_⟩
 ·rw [acx];simp only [resolve,rangeCall,hg,Deferred.ofValue];simp
  rfl
 ·have e:(#[]++ #[zam (.yield (w.heap.size+1)) #[] #[]]:Array Value)++cap.toArray=(zam (.yield (w.heap.size+1)) #[] #[]::cap).toArray:=by simp
  rw [<-e];exact hE.run _ _
 ·refine(callsIn_wide (n:=0)).2 (Calls.mono hc ?_)
  rintro e w3 ⟨v,rfl,j,rc',L3,h3,h4⟩
  have hl:w3.heap[w.heap.size+1]? =_:=(h3.res _ (zat)).1;have hb:lst j≠.busy:=by unfold lst;split<;>simp
  refine⟨jmp j,_,run_endLoop hl hb, ?_⟩
  have h5:=(h3.put 0 (w.heap.size+1) _ (gone (w.heap.size+1)) (.loop {({rc' with state:=lst j,pending:=jmp j}:Loop)with state:=.exhausted,pending:=jmp j}) rfl rfl rfl trivial).tail;have h6:=h4 _ h5;unfold RgQ at h6
  revert h6
  generalize jmp j=pd;intro h6;cases pd with
  |none=>exact h6
  |some c=>unfold Go.Wk.C CC at h6;exact h6
theorem run_range{f:Operand}{ps:Array Nat}{asg body:Code}{xa xb:Ef}(hC:Cok C Gp)(hK:KsOk C Gp K):afn C Gp (fun m S=>eRange f ps asg body xa xb K m S) (.rangeFunc f ps asg body):=by
 intro m S e S' hv w0 E w Q h hq hk;obtain⟨mm,h1,hv⟩:=aaa hv;obtain⟨h2,hv⟩:=aac hv;obtain⟨h3,hv⟩:=aac hv;obtain⟨g,h4,hv⟩:=aaa hv;obtain⟨hf,hfok⟩:=abo (h.sd hC) h4;obtain⟨mn,mo⟩:=m;have hmm:mo=some none:=by
  have h1':mo=some mm:=h1;cases mm with
  |none=>exact h1'
  |some l=>cases h2
 subst hmm;have hD:S.D=none:=by simpa using h3
 cases g with
 |fn k cs=>
  obtain⟨⟨u,H2⟩,h5,hv⟩:=aaa (show(ob (K.call k (.c (.y (S.H.nx+1))::ptrs cs) ((S.H.add .df).add (.lp false 0 mn ps.toList asg body S.F))) fun r=>ob (lpAt r.2 (S.H.nx+1) false) fun q=>
   (fun S':T=>(Nat.rec (some (.nm,S')) (fun j _=>Nat.rec (some (.rt,S')) (fun id _=>some (.xt id,S')) j) q.1:RT)) ⟨S.F,r.2.upd (S.H.nx+1) .gn,some S.H.nx⟩)=some (e,S')from hv)
  obtain⟨q,h6,hv⟩:=aaa hv;have hmd:aeo E ⟨mn,some none⟩ S.D=⟨mn,[],some none⟩:=by rw [hD];rfl
  rw [hmd]at hf⊢;have hf':evn ⟨mn,[],some none⟩ (rF E S.F) f=.func (.func k) #[] (cs.map fun i=>Value.pointer (some ⟨(E i).1,0,none⟩)).toArray:=hf;refine c_rangeFunc' h.inv.hp k _ hf' ?_;intro rc r1 r2 r3 r4 w2 hp2
  let E1:=eat E S.H.nx (w.heap.size,0)
  let E2:=eat E1 (S.H.nx+1) (w.heap.size+1,0)
  have a1:Ag S.H.nx E E1:=aeg _ _ _;have a2:Ag (S.H.nx+1) E1 E2:=aeg _ _ _;have a12:Ag S.H.nx E E2:=a1.trans a2 (by omega);have inv1:Inv w0 E1 (S.H.add .df) w2:=by
   refine h.inv.add a1 trivial ?_;have e1:resOf E1 S.H.nx .df=dfr w.heap.size:=by simp only [resOf,E1,abf]
   rw [e1];exact hp2.tail
  have inv2:Inv w0 E2 ((S.H.add .df).add (.lp false 0 mn ps.toList asg body S.F)) w2:=by
   refine inv1.add a2 (Fok.up (by show S.H.nx<=S.H.nx+1+1;omega) h.fok) ?_;have e1:resOf E2 (S.H.nx+1) (.lp false 0 mn ps.toList asg body S.F)=lpres (w.heap.size+1) false 0 mn ps.toList asg body (rF E S.F):=by
    simp only [resOf];rw [rF_ext a12 h.fok];simp only [E2,abf]
   show Hp w0 [] (resOf E2 (S.H.nx+1) (.lp false 0 mn ps.toList asg body S.F)::acw E1 (S.H.add .df)) w2;rw [e1];have e2:acw E1 (S.H.add .df)=acw E S.H++[dfr w.heap.size]:=by
    show(List.range (S.H.nx+1)).map _=_
    rw [List.range_succ,List.map_append];congr 1
    ·refine zas fun i hi=> ?_
     have hi:i<S.H.nx:=List.mem_range.1 hi;rw [hat_add,if_neg (by omega),resOf_ext a1 hi (h.inv.hatok i)]
    ·simp [hat_add,resOf,E1,abf]
   rw [e2];have hp3:=hp_weak (k:=0) (r':=lpres (w.heap.size+1) false 0 mn ps.toList asg body (rF E S.F)) hp2 rfl rfl ⟨rc,r1,r2,by rw [r3],r4,(hp2.res _ zat).1⟩;refine hp3.perm ?_;refine List.Perm.cons _ ?_;exact(List.perm_append_singleton _ _).symm
  obtain⟨p1,p2⟩:=ptrs_ok (k:=S.H.nx) E2 (l:=cs) hfok;obtain⟨hE,hcr⟩:=hK.call k _ _ _ _ h5 w0 E2 w2 h.gp inv2 (fun x hx=>by
   rcases List.mem_cons.1 hx with rfl|hx
   ·show S.H.nx+1<S.H.nx+1+1;omega
   ·exact SV.up (by show S.H.nx<=S.H.nx+1+1;omega) (p2 x hx))
  refine⟨hE, ?_⟩
  have hargs:(SV.c (.y (S.H.nx+1))::ptrs cs).map (SV.re E2)=.func (.yield (w.heap.size+1)) #[] #[]::cs.map fun i=>Value.pointer (some ⟨(E i).1,0,none⟩):=by
   rw [zav,p1];congr 1
   ·simp only [SV.re,SC.re,E2,abf]
   ·exact zas fun i hi=>by rw [a12 i (hfok i hi)]
  rw [hargs]at hcr;refine CR.mono hcr ?_;rintro V w3 ⟨E3,g1,g2,g3,g4,rfl⟩
  obtain⟨hi3,hF3,rc3,t1,t2,t3,t4,t5⟩:=lp_get g3 h6;have ei:(E3 (S.H.nx+1)).1=w.heap.size+1:=by
   rw [g1 (S.H.nx+1) (by show S.H.nx+1<S.H.nx+1+1;omega)];simp only [E2,abf]
  have e0:(E3 S.H.nx).1=w.heap.size:=by
   rw [g1 S.H.nx (by show S.H.nx<S.H.nx+1+1;omega)];rw [a2 S.H.nx (by omega)];simp only [E1,abf]
  have a3:Ag S.H.nx E E3:=a12.trans g1 (by show S.H.nx<=S.H.nx+1+1;omega);have n3:S.H.nx<=H2.nx:=zax (by show S.H.nx<=S.H.nx+1+1;omega) g2;simp only at t5;rw [ei]at t5;have hlen3:S.H.nx+1<(acw E3 H2).length:=by rw [aef];exact hi3
  have hp4:=t5.front (S.H.nx+1) _ (List.getElem?_set_self hlen3);refine⟨q.1,rc3,_,hp4, ?_⟩
  intro w4 hp5;have inv4:Inv w0 E3 (H2.upd (S.H.nx+1) .gn) w4:=by
   refine g3.upd hi3 trivial ?_;have e5:((acw E3 H2).set (S.H.nx+1) (lrec (w.heap.size+1) q.1 rc3)).eraseIdx (S.H.nx+1)=(acw E3 H2).eraseIdx (S.H.nx+1):=by
    rw [List.eraseIdx_set_eq]
   rw [e5]at hp5;exact Hp.perm (hp_gn hp5) (set_perm _ _ _ hlen3).symm
  have hd4:∀r,some S.H.nx=some r->r<H2.nx:=fun r e=>by
   cases e
   have:S.H.nx+1+1<=H2.nx:=g2
   omega
  have at4:At C Gp ⟨mn,some none⟩ ⟨S.F,H2.upd (S.H.nx+1) .gn,some S.H.nx⟩ w0 E3 w4:=
   ⟨inv4,Fok.up n3 h.fok,h.gp,(fun l e=>by cases e),hd4⟩
  have hmd3:aeo E3 ⟨mn,some none⟩ (some S.H.nx)=⟨mn,[Go.Wk.mark w.heap.size],some none⟩:=by
   show(⟨mn,[Go.Wk.mark (E3 S.H.nx).1],some none⟩:Md)=_
   rw [e0]
  have hF4:rF E3 S.F=rF E S.F:=rF_ext a3 h.fok;generalize hj:q.1=j at hv⊢;cases j with
  |zero=>
   have ev:((.nm,⟨S.F,H2.upd (S.H.nx+1) .gn,some S.H.nx⟩):Ex×T)=(e,S'):=Option.some.inj hv;cases ev
   have this:Q .normal (fr (aeo E3 ⟨mn,some none⟩ (some S.H.nx)) (rF E3 S.F)) w4:=hk E3 w4 a3 n3 at4;rw [hmd3,hF4]at this;exact rg0 rfl this
  |succ j=>
   cases j with
   |zero=>
    have ev:((.rt,⟨S.F,H2.upd (S.H.nx+1) .gn,some S.H.nx⟩):Ex×T)=(e,S'):=Option.some.inj hv;cases ev
    have this:Q .ret (fr (aeo E3 ⟨mn,some none⟩ (some S.H.nx)) (rF E3 S.F)) w4:=hk E3 w4 a3 n3 at4;rw [hmd3,hF4]at this;exact rg1 rfl (c_ret this)
   |succ id=>
    have ev:((.xt id,⟨S.F,H2.upd (S.H.nx+1) .gn,some S.H.nx⟩):Ex×T)=(e,S'):=Option.some.inj hv;cases ev
    have this:Q (.exit id) (fr (aeo E3 ⟨mn,some none⟩ (some S.H.nx)) (rF E3 S.F)) w4:=hk E3 w4 a3 n3 at4;rw [hmd3,hF4]at this;exact rgx id rfl (afb this)
 |_=>cases hv
end
open Go.Wk
open Bool renaming eq_iff_iff -> zaI
open Go.Value renaming agg -> zal, tuple -> zaF
open List renaming append_assoc -> zaN, map_congr_left -> zas, mem_cons_of_mem -> zau, mem_cons_self -> zat, replicate -> zad
open Nat renaming beq -> zaf, ble -> zah, blt -> zar, zero_add -> zaz
open Option renaming rec -> zae
theorem beqb_ok{a b:Bool}(h:beqb a b=true):a=b:=by cases a<;>cases b<;>first|rfl|cases h
theorem cpe_ok{a b:Cp}(h:Cp.eqb a b=true):a=b:=by
 cases a with
 |k c=>cases b with
  |k c'=>have h':zaf c c'=true:=h;rw [aah]at h';rw [h']
  |r _=>cases h
 |r c=>cases b with
  |r c'=>have h':zaf c c'=true:=h;rw [aah]at h';rw [h']
  |k _=>cases h
theorem bb2{a b:Bool}(h:bi a b false=true):a=true/\b=true:=by
 cases a with
 |true=>exact⟨rfl,h⟩
 |false=>cases h
theorem nb{a b:Nat}(h:zaf a b=true):a=b:=by rw [aah]at h;exact h
theorem eqL_ok{α:Type}{q:α->α->Bool}(hq:∀{x y},q x y=true->x=y):∀{l r:List α},eqL q l r=true->l=r
 |[],[],_=>rfl
 |[],_::_,h=>by cases h
 |_::_,[],h=>by cases h
 |x::l,y::r,h=>by
  obtain⟨h1,h2⟩:=bb2 (show bi (q x y) (eqL q l r) false=true from h);rw [hq h1,eqL_ok hq h2]
theorem sce_ok{x y:SC}(h:SC.eqb x y=true):x=y:=by
 unfold SC.eqb at h;split at h
 ·rw [beqb_ok h]
 ·obtain⟨h1,h2⟩:=bb2 h;rw [kn_inj h1,nb h2]
 ·obtain⟨h1,h2⟩:=bb2 h;rw [nb h1,nb h2]
 ·rfl
 ·rfl
 ·rfl
 ·rfl
 ·rfl
 ·obtain⟨h1,h2⟩:=bb2 h;rw [nb h1,nb h2]
 ·obtain⟨h1,h2⟩:=bb2 h;rw [nb h1,nb h2]
 ·obtain⟨h1,h2⟩:=bb2 h;obtain⟨h2,h3⟩:=bb2 h2;obtain⟨h3,h4⟩:=bb2 h3;rw [nb h1,nb h2,nb h3,cpe_ok h4]
 ·obtain⟨h1,h2⟩:=bb2 h;rw [nb h1,eqL_ok nb h2]
 ·rw [nb h]
 ·rw [nb h]
 ·obtain⟨h1,h2⟩:=bb2 h;obtain⟨h2,h3⟩:=bb2 h2;obtain⟨h3,h4⟩:=bb2 h3;rw [nb h1,nb h2,nb h3,nb h4]
 ·cases h
theorem sae_ok{x y:SA}(h:SA.eqb x y=true):x=y:=by
 cases x<;>cases y<;>first|cases h|skip
 ·rw [sce_ok (show SC.eqb _ _=true from h)]
 ·rw [eqL_ok sce_ok (show eqL SC.eqb _ _=true from h)]
theorem sve_ok{x y:SV}(h:SV.eqb x y=true):x=y:=by
 cases x<;>cases y<;>first|rfl|cases h|skip
 ·rw [sce_ok (show SC.eqb _ _=true from h)]
 ·rw [eqL_ok sce_ok (show eqL SC.eqb _ _=true from h)]
 ·rw [eqL_ok sae_ok (show eqL SA.eqb _ _=true from h)]
theorem moe_ok{x y:Mo}(h:Mo.eqb x y=true):x=y:=by
 cases x<;>cases y<;>first|rfl|cases h|skip
 obtain⟨h1,h2⟩:=bb2 (show bi (zaf _ _) (zaf _ _) false=true from h);rw [nb h1,nb h2]
theorem p2e_ok{x y:SC×SC}(h:P2.eqb x y=true):x=y:=by
 obtain⟨h1,h2⟩:=bb2 (show bi (SC.eqb x.1 y.1) (SC.eqb x.2 y.2) false=true from h);exact Prod.ext (sce_ok h1) (sce_ok h2)
theorem hbe_ok{x y:HB}(h:HB.eqb x y=true):x=y:=by
 unfold HB.eqb at h;split at h
 ·rw [eqL_ok p2e_ok h]
 ·obtain⟨h1,h2⟩:=bb2 h;obtain⟨h2,h3⟩:=bb2 h2;rw [nb h1,moe_ok h2,eqL_ok sce_ok h3]
 ·obtain⟨h1,h2⟩:=bb2 h;obtain⟨h2,h3⟩:=bb2 h2;rw [nb h1,nb h2,nb h3]
 ·rfl
 ·rfl
 ·cases h
theorem oe_ok{α:Type}{q:α->α->Bool}(hq:∀{x y},q x y=true->x=y){x y:Option α}(h:oeqb q x y=true):x=y:=by
 cases x<;>cases y<;>first|rfl|cases h|skip
 rw [hq (show q _ _=true from h)]
theorem tre_ok{α:Type}{q:α->α->Bool}(hq:∀{x y},q x y=true->x=y):∀{t t':Tr α},Tr.eqb q t t'=true->t=t'
 |.e,.e,_=>rfl
 |.e,.n ..,h=>by cases h
 |.n ..,.e,h=>by cases h
 |.n l v r,.n l' v' r',h=>by
  obtain⟨h1,h2⟩:=bb2 (show bi (oeqb q v v') (bi (Tr.eqb q l l') (Tr.eqb q r r') false) false=true from h);obtain⟨h2,h3⟩:=bb2 h2;rw [oe_ok hq h1,tre_ok hq h2,tre_ok hq h3]
theorem te_ok{S S':T}(h:T.eqb S S'=true):S=S':=by
 obtain⟨h1,h2⟩:=bb2 h;obtain⟨h2,h3⟩:=bb2 h2;obtain⟨h3,h4⟩:=bb2 h3;obtain⟨F,⟨n,t⟩,D⟩:=S;obtain⟨F',⟨n',t'⟩,D'⟩:=S';rw [show n=n' from nb h1,show D=D' from oeq_ok h2,show F=F' from tre_ok sve_ok h3,show t=t' from tre_ok hbe_ok h4]
theorem blL_ok{n:Nat}:∀{l:List Nat},blL n l=true->∀i∈l,i<n
 |[],_,i,hi=>by cases hi
 |x::l,h,i,hi=>by
  obtain⟨h1,h2⟩:=bb2 (show bi (zah (x+1) n) (blL n l) false=true from h);rcases List.mem_cons.1 hi with rfl|hi
  ·rw [aae]at h1;exact h1
  ·exact blL_ok h2 i hi
theorem sc_okb{n:Nat}{x:SC}(h:x.okb n=true):x.ok n:=by
 cases x with
 |p i off=>have h':zah (i+1) n=true:=h;rw [aae]at h';exact h'
 |sl i base m c=>have h':zah (i+1) n=true:=h;rw [aae]at h';exact h'
 |y i=>have h':zah (i+1) n=true:=h;rw [aae]at h';exact h'
 |m i=>have h':zah (i+1) n=true:=h;rw [aae]at h';exact h'
 |z i b dd off=>have h':zah (i+1) n=true:=h;rw [aae]at h';exact h'
 |fn f cs=>exact blL_ok (show blL n cs=true from h)
 |_=>trivial
theorem okL_ok{n:Nat}:∀{l:List SC},okL n l=true->∀x∈l,x.ok n
 |[],_,i,hi=>by cases hi
 |x::l,h,i,hi=>by
  obtain⟨h1,h2⟩:=bb2 (show bi (x.okb n) (okL n l) false=true from h);rcases List.mem_cons.1 hi with rfl|hi
  ·exact sc_okb h1
  ·exact okL_ok h2 i hi
theorem sv_okb{n:Nat}{v:SV}(h:v.okb n=true):v.ok n:=by
 cases v with
 |c x=>exact sc_okb h
 |a l=>exact okL_ok h
 |t l=>cases h
 |u=>trivial
section
variable {C : Cx} {Gp : World -> Prop} {m : M} {n : Md} {S S' : T} {w0 w : World} {E E' : En} {K : Ks} {H : Hs}
theorem hp_none(w:World):∀L:List Res,(∀r∈L,r=⟨none,fun _=>True⟩)->Hp w [] L w
 |[],_=>Hp.refl w
 |r::L,h=>by
  rw [h r zat];exact hp_gn (hp_none w L fun r hr=>h r (zau _ hr))
theorem inv_bare(E:En)(n:Nat)(w:World):Inv w E ⟨n,.e⟩ w:=by
 refine⟨hp_none w _ fun r hr=> ?_,fun i b h=> ?_,fun i b h=> ?_⟩
 ·obtain⟨i,_,rfl⟩:=List.mem_map.1 hr;show resOf E i (hat ⟨n,.e⟩ i)=_;unfold hat;simp only [Tr.get_e];rfl
 ·simp only [Tr.get_e]at h;cases h
 ·simp only [Tr.get_e]at h;cases h
theorem slOf_ok{op:Op}{q:Nat×Operand×Option Operand×Option Operand×Option Operand}(h:slOf op=some q):op=.slice q.1 q.2.1 q.2.2.1 q.2.2.2.1 q.2.2.2.2:=by
 cases op<;>first|(cases h;rfl)|cases h
theorem bare_ok(h0:Sd C m S n w0 E w){o:Oper}{v:SV}(hv:valB C m S o=some v)(w:World):(execOp (evn n (rF E S.F)) o).run C.P w=.ok (.value (v.re E)) w/\v.ok S.H.nx:=by
 have hs:Sd C.bare m (S0 S) n w E w:=⟨h0.hn,inv_bare E _ w,h0.fok,fun g cs h=>by cases h⟩
 obtain⟨d,op,ty,pos,after,gd⟩:=o;unfold valB at hv;cases hq:slOf op with
 |none=>
  have hv:(zae (opV op C.bare m (S0 S) ⟨d,op,ty,pos,after,gd⟩) (fun q=>opSliceR C.bare m (S0 S) (room S) q.1 q.2.1 q.2.2.1 q.2.2.2.1 q.2.2.2.2) (slOf op):Option SV)=some v:=hv;rw [hq]at hv;exact opV_ok hs hv
 |some q=>
  have hv:(zae (opV op C.bare m (S0 S) ⟨d,op,ty,pos,after,gd⟩) (fun q=>opSliceR C.bare m (S0 S) (room S) q.1 q.2.1 q.2.2.1 q.2.2.2.1 q.2.2.2.2) (slOf op):Option SV)=some v:=hv;rw [hq]at hv;have e:=slOf_ok hq;subst e;exact yd_sliceR hs (fun i k hr=>room_ok h0 hr) hv
theorem ldOf_ok{op:Op}{q:Nat×Operand}(h:ldOf op=some q):op=.load q.1 q.2:=by
 cases op<;>first|(cases h;rfl)|cases h
def fact(P:Program)(E:En)(f:Fa)(w:World):Prop:=∃A:Addr,f.x.re E=.pointer (some A)/\(loadVar f.t A).run P w=.ok (f.v.re E) w
def Srel(P:Program)(E:En)(fs:List Fa)(j:Nat)(w w':World):Prop:=∀f∈fs,abv f.D (fact P E f) j w w'
theorem srel_refl(P:Program)(E:En)(fs:List Fa):∀j w,Srel P E fs j w w:=fun _ _ _ _=>abv.same
inductive Fit (ops:Array Oper) (k:Nat):Nat->List Bool->Pl->Prop
 |dn {l:List Bool} (h:Region.seqB .any ops (ops.size-k) k l.toArray=true):Fit ops k 0 l .dn
 |pu {f:Nat} {l:List Bool} {i d:Nat} {o:Oper} {n:Pl} (h1:ops[i]? =some o) (h2:o.dst=some d) (h3:Region.free .any ops l.toArray i=true) (h4:(Region.ready .any ops l.toArray).contains i=true) (h5:zar i k=true)
   (h6:Fit ops k f (l.set i true) n):Fit ops k (f+1) l (.pu i o d n)
 |ld {f:Nat} {l:List Bool} {i d:Nat} {o:Oper} {n:Pl} {D:List Nat} (h1:ops[i]? =some o) (h2:o.dst=some d) (h3:Region.free .any ops l.toArray i=true) (h4:(Region.ready .any ops l.toArray).contains i=true) (h5:zar i k=true)
   (hD:descB .any ops i D=true) (h6:Fit ops k f (l.set i true) n):Fit ops k (f+1) l (.ld i o d D n)
 |on {f:Nat} {l:List Bool} {i:Nat} {o:Oper} {n:Pl} (h1:ops[i]? =some o) (h2:Region.ready .any ops l.toArray=[i]) (h5:zar i k=true) (h6:Fit ops k f (l.set i true) n):Fit ops k (f+1) l (.on i o n)
 |tw {f:Nat} {l:List Bool} {i j:Nat} {o o':Oper} {n n':Pl} (h1:ops[i]? =some o) (h1':ops[j]? =some o') (h2:Region.ready .any ops l.toArray=[i,j]) (h5:zar i k=true) (h5':zar j k=true)
   (h6:Fit ops k f (l.set i true) n) (h6':Fit ops k f (l.set j true) n'):Fit ops k (f+1) l (.tw i o n j o' n')
theorem qf_ok{ops:Array Oper}{k i:Nat}{l:List Bool}(h:qf C ops k l i=true):zar i k=true/\Region.free .any ops l.toArray i=true:=by
 obtain⟨h1,h2⟩:=bb2 h;refine⟨h1, ?_⟩
 cases ho:ops[i]? with
 |none=>rw [ho]at h2;cases h2
 |some o=>
  rw [ho]at h2;obtain⟨_,h2⟩:=bb2 (show bi (zah (kindV C o.op) 1) (bi o.dst.isSome (Region.free .any ops l.toArray i) false) false=true from h2);exact(bb2 h2).2
theorem planE_ok{ops:Array Oper}{k:Nat}:∀(f:Nat) (l:List Bool) (p:Pl),planE C ops k f l=some p->Fit ops k f l p
 |0,l,p,h=>by
  obtain⟨h1,h2⟩:=aac h;cases h2
  exact .dn h1
 |f+1,l,p,h=>by
  have h':zae (stepL ops k (planE C ops k f) l (Region.ready .any ops l.toArray)) (stepQ C ops (planE C ops k f) l) ((Region.ready .any ops l.toArray).find? (qf C ops k l))=some p:=h;cases hf:(Region.ready .any ops l.toArray).find? (qf C ops k l)with
  |some i=>
   rw [hf]at h';obtain⟨o,h1,h'⟩:=aaa (show stepQ C ops (planE C ops k f) l i=some p from h');obtain⟨d,h2,h'⟩:=aaa h';obtain⟨n,h3,h'⟩:=aaa h';obtain⟨q1,q2⟩:=qf_ok (List.find?_some hf);have hm:(Region.ready .any ops l.toArray).contains i=true:=by simpa using List.mem_of_find?_eq_some hf
   have ih:=planE_ok f _ n h3;rw [aat]at h';split at h'
   ·cases h';exact .pu h1 h2 q2 hm q1 ih
   ·obtain⟨h4,h'⟩:=aac h';cases h';exact .ld h1 h2 q2 hm q1 h4 ih
  |none=>
   rw [hf]at h';have h':stepL ops k (planE C ops k f) l (Region.ready .any ops l.toArray)=some p:=h';unfold stepL at h';split at h'
   ·rename_i i hr;obtain⟨h1,h'⟩:=aac h';obtain⟨o,h2,h'⟩:=aaa h';obtain⟨n,h3,h'⟩:=aaa h';cases h'
    exact .on h2 hr h1 (planE_ok f _ n h3)
   ·rename_i i j hr;obtain⟨h1,h'⟩:=aac h';obtain⟨h1',h'⟩:=aac h';obtain⟨o,h2,h'⟩:=aaa h';obtain⟨o',h2',h'⟩:=aaa h';obtain⟨n,h3,h'⟩:=aaa h';obtain⟨n',h3',h'⟩:=aaa h';cases h'
    exact .tw h2 h2' hr h1 h1' (planE_ok f _ n h3) (planE_ok f _ n' h3')
   ·cases h'
theorem planOf_ok{ops:Array Oper}{k:Nat}{p:Pl}(h:planOf C ops=some (k,p)):adq ops k=true/\Fit ops k k (zad ops.size false) p:=by
 obtain⟨h1,h⟩:=aac (show bi (adq ops (kOf ops ops.size)) (ob (planE C ops (kOf ops ops.size) (kOf ops ops.size) (zad ops.size false)) fun p=>some (kOf ops ops.size,p)) none=some (k,p)from h);obtain⟨q,h2,h⟩:=aaa h;cases h
 exact⟨h1,planE_ok _ _ _ h2⟩
end
theorem agn{α β:Type}(f:α->β):∀l:List α,mapL f l=l.map f
 |[]=>rfl
 |x::l=>by show f x::mapL f l=_;rw [agn f l];rfl
theorem allN_ok{g:Nat->Bool}:∀{n:Nat},allN g n=true->∀i,i<n->g i=true
 |0,_,i,hi=>by omega
 |n+1,h,i,hi=>by
  obtain⟨h1,h2⟩:=bb2 (show bi (g n) (allN g n) false=true from h);by_cases e:i=n
  ·rw [e];exact h1
  ·exact allN_ok h2 i (by omega)
theorem hatN_eq(H:Hs)(i:Nat):hatN H.t i=hat H i:=by
 unfold hatN hat;cases H.t.get i<;>rfl
theorem reb_get(t:Tr HB):∀(n k:Nat),(reb t n).get k=if k<n then some (hatN t k)else none
 |0,k=>by
  show Tr.get .e k=_;rw [Tr.get_e];simp
 |n+1,k=>by
  show((reb t n).set n (hatN t n)).get k=_
  rw [Tr.get_set,reb_get t n k];by_cases e:k=n
  ·subst e;simp
  ·rw [if_neg e];by_cases h:k<n
   ·rw [if_pos h,if_pos (by omega)]
   ·rw [if_neg h,if_neg (by omega)]
theorem hat_reb{S:T}{i:Nat}(hi:i<S.H.nx):hat S.rb.H i=hat S.H i:=by
 show((reb S.H.t S.H.nx).get i).getD .gn=_
 rw [reb_get,if_pos hi,hatN_eq];rfl
theorem rb_get{S:T}{i:Nat}{b:HB}(h:S.rb.H.t.get i=some b):i<S.H.nx/\b=hat S.H i:=by
 have h:(reb S.H.t S.H.nx).get i=some b:=h;rw [reb_get]at h;split at h
 ·rename_i hi;cases h
  exact⟨hi,hatN_eq _ _⟩
 ·cases h
theorem map_rot(g:Nat->Nat)(s s' n:Nat)(h:∀i,i<n->g (s+i)=s'+i):(List.range' s n).map g=List.range' s' n:=by
 rw [List.range'_eq_map_range,List.range'_eq_map_range,List.map_map];exact zas fun i hi=>h i (List.mem_range.1 hi)
theorem rot_eq(a p q i:Nat):rot a p q i=if i<a then i else if i<a+p then i+q else if i<a+p+q then i-p else i:=by
 unfold rot;have e:∀x y:Nat,zar x y=decide (x<y):=fun x y=>by
  rw [zaI,decide_eq_true_iff];show zah (x+1) y=true↔_;rw [Nat.ble_eq];omega
 simp only [e,Nat.add_eq,Nat.sub_eq];by_cases h1:i<a
 ·simp [h1,bi]
 ·by_cases h2:i<a+p
  ·simp [h1,h2,bi]
  ·by_cases h3:i<a+p+q
   ·simp [h1,h2,h3,bi]
   ·simp [h1,h2,h3,bi]
theorem SC.ren_re(E:En)(f:Nat->Nat)(x:SC):x.re (fun i=>E (f i))=(x.ren f).re E:=by
 cases x with
 |sl i b n c=>cases c<;>rfl
 |fn g cs=>show _=SC.re E (.fn g (mapL f cs));rw [agn];simp [SC.re,List.map_map,Function.comp_def]
 |_=>rfl
theorem scs_ren(E:En)(f:Nat->Nat)(l:List SC):l.map (SC.re fun i=>E (f i))=(mapL (SC.ren f) l).map (SC.re E):=by
 rw [agn,List.map_map];exact zas fun x _=>SC.ren_re E f x
theorem SA.ren_re(E:En)(f:Nat->Nat)(x:SA):x.re (fun i=>E (f i))=(x.ren f).re E:=by
 cases x with
 |c x=>exact SC.ren_re E f x
 |a l=>show zal _=zal _;rw [scs_ren]
theorem SV.ren_re(E:En)(f:Nat->Nat)(x:SV):x.re (fun i=>E (f i))=(x.ren f).re E:=by
 cases x with
 |c x=>exact SC.ren_re E f x
 |a l=>show zal _=zal _;rw [scs_ren]
 |t l=>
  show zaF _=zaF ((mapL (SA.ren f) l).map (SA.re E)).toArray;rw [agn,List.map_map];congr 2
  exact zas fun x _=>SA.ren_re E f x
 |u=>rfl
theorem SC.ren_ok{n:Nat}{f:Nat->Nat}(hf:∀i,f i<n->i<n){x:SC}(h:(x.ren f).ok n):x.ok n:=by
 cases x with
 |fn g cs=>
  have h':∀j∈mapL f cs,j<n:=h;rw [agn]at h';exact fun j hj=>hf j (h' _ (List.mem_map_of_mem hj))
 |p i o=>exact hf _ h
 |sl i b m c=>exact hf _ h
 |y i=>exact hf _ h
 |m i=>exact hf _ h
 |z i b d o=>exact hf _ h
 |_=>trivial
theorem scs_rok{n:Nat}{f:Nat->Nat}(hf:∀i,f i<n->i<n){l:List SC}(h:∀x∈mapL (SC.ren f) l,x.ok n):∀x∈l,x.ok n:=by
 rw [agn]at h;exact fun x hx=>SC.ren_ok hf (h _ (List.mem_map_of_mem hx))
theorem SA.ren_ok{n:Nat}{f:Nat->Nat}(hf:∀i,f i<n->i<n){x:SA}(h:(x.ren f).ok n):x.ok n:=by
 cases x with
 |c x=>exact SC.ren_ok hf h
 |a l=>exact scs_rok hf h
theorem SV.ren_ok{n:Nat}{f:Nat->Nat}(hf:∀i,f i<n->i<n){x:SV}(h:(x.ren f).ok n):x.ok n:=by
 cases x with
 |c x=>exact SC.ren_ok hf h
 |a l=>exact scs_rok hf h
 |t l=>
  have h':∀x∈mapL (SA.ren f) l,x.ok n:=h;rw [agn]at h';exact fun x hx=>SA.ren_ok hf (h' _ (List.mem_map_of_mem hx))
 |u=>trivial
theorem HB.ren_ok{n:Nat}{f:Nat->Nat}(hf:∀i,f i<n->i<n){b:HB}(hl:∀x1 x2 x3 x4 x5 x6 x7,b≠.lp x1 x2 x3 x4 x5 x6 x7)(h:(b.ren f).ok n):b.ok n:=by
 cases b with
 |cl t md xs=>exact scs_rok hf h
 |lp x1 x2 x3 x4 x5 x6 x7=>exact(hl _ _ _ _ _ _ _ rfl).elim
 |mp es=>
  have h':∀p∈mapL (fun p:SC×SC=>(p.1.ren f,p.2.ren f)) es,p.1.ok n/\p.2.ok n:=h;rw [agn]at h';exact fun p hp=>⟨SC.ren_ok hf (h' _ (List.mem_map_of_mem hp)).1,SC.ren_ok hf (h' _ (List.mem_map_of_mem hp)).2⟩
 |it l x pos=>trivial
 |df=>trivial
 |gn=>trivial
theorem resOf_ren(E:En)(f:Nat->Nat)(i:Nat){b:HB}(hl:∀x1 x2 x3 x4 x5 x6 x7,b≠.lp x1 x2 x3 x4 x5 x6 x7):resOf (fun i=>E (f i)) i b=resOf E (f i) (b.ren f):=by
 cases b with
 |cl t md xs=>show cres _ _ _ _ _=cres _ _ _ _ _;rw [scs_ren]
 |lp x1 x2 x3 x4 x5 x6 x7=>exact(hl _ _ _ _ _ _ _ rfl).elim
 |mp es=>
  show mpres _ _=mpres _ ((mapL (fun p:SC×SC=>(p.1.ren f,p.2.ren f)) es).map _);rw [agn,List.map_map];congr 1
  exact zas fun p _=>by simp only [Function.comp,SC.ren_re]
 |it l x pos=>rfl
 |df=>rfl
 |gn=>rfl
theorem nolp_ren{f:Nat->Nat}{b b':HB}(h:HB.eqb (b.ren f) b'=true):∀x1 x2 x3 x4 x5 x6 x7,b≠.lp x1 x2 x3 x4 x5 x6 x7:=by
 rintro x1 x2 x3 x4 x5 x6 x7 rfl
 cases b'<;>cases h
theorem tr_get{α:Type}{q:α->α->Bool}(p:Pk):∀{t t':Tr α},Tr.eqb q t t'=true->oeqb q (t.getP p) (t'.getP p)=true:=by
 have e:∀{t t':Tr α},Tr.eqb q t t'=true->oeqb q t.V t'.V=true/\Tr.eqb q t.L t'.L=true/\Tr.eqb q t.R t'.R=true:=by
  intro t t' h;cases t with
  |e=>cases t' with
   |e=>exact⟨rfl,rfl,rfl⟩
   |n=>cases h
  |n l v r=>cases t' with
   |e=>cases h
   |n l' v' r'=>
    obtain⟨h1,h2⟩:=bb2 (show bi (oeqb q v v') (bi (Tr.eqb q l l') (Tr.eqb q r r') false) false=true from h);obtain⟨h2,h3⟩:=bb2 h2;exact⟨h1,h2,h3⟩
 induction p with
 |_=>intro t t' h;first|exact(e h).1|(rename_i ih;first|exact ih (e h).2.1|exact ih (e h).2.2)
theorem tr_get'{α:Type}{q:α->α->Bool}{t t':Tr α}(h:Tr.eqb q t t'=true)(k:Nat):oeqb q (t.get k) (t'.get k)=true:=tr_get _ h
section
variable {C : Cx} {Gp : World -> Prop} {m : M} {S S' : T} {w0 w : World} {E E' : En} {K : Ks} {H : Hs}
theorem swap_at{a p q:Nat}(h:T.eqr a p q S S'=true)(h':At C Gp m S' w0 E w)(hm:Mok a m):
  At C Gp m S.rb w0 (fun i=>E (rot a p q i)) w/\rF (fun i=>E (rot a p q i)) S.F=rF E S'.F/\aeo (fun i=>E (rot a p q i)) m S.D=aeo E m S'.D/\Ag a E (fun i=>E (rot a p q i)):=by
 obtain⟨h1,h⟩:=bb2 h;obtain⟨h2,h⟩:=bb2 h;obtain⟨h3,h⟩:=bb2 h;obtain⟨h4,h⟩:=bb2 h;obtain⟨h5,h6⟩:=bb2 h;have h1:=nb h1;have h2:a+p+q<=S.H.nx:=by rw [aae]at h2;exact h2
 have h3:S.D=S'.D:=oeq_ok h3;have hf:∀i,rot a p q i<S.H.nx->i<S.H.nx:=by
  intro i hi;rw [rot_eq]at hi;by_cases e1:i<a
  ·omega
  ·rw [if_neg e1]at hi;by_cases e2:i<a+p
   ·omega
   ·rw [if_neg e2]at hi;by_cases e3:i<a+p+q
    ·omega
    ·rw [if_neg e3]at hi;exact hi
 have hag:Ag a E (fun i=>E (rot a p q i)):=by
  intro i hi;show E (rot a p q i)=E i;rw [rot_eq,if_pos hi]
 have hF:∀t,oeqb (fun x y=>SV.eqb (x.ren (rot a p q)) y) (S.F.get t) (S'.F.get t)=true:=tr_get' h5;have hF1:∀t v,S.F.get t=some v->∃v',S'.F.get t=some v'/\v.ren (rot a p q)=v':=by
  intro t v hv
  have:=hF t
  rw [hv]at this;cases hv':S'.F.get t with
  |none=>rw [hv']at this;cases this
  |some v'=>rw [hv']at this;exact⟨v',rfl,sve_ok this⟩
 have hH:∀i,i<S.H.nx->HB.eqb ((hat S.H i).ren (rot a p q)) (hat S'.H (rot a p q i))=true:=by
  intro i hi
  have:=allN_ok h6 i hi
  rwa [hatN_eq,hatN_eq]at this
 have hd:Dok a S.D:=by
  intro r hr;rw [hr]at h4;have h4:zah (r+1) a=true:=h4;rw [aae]at h4;exact h4
 have hrF:rF (fun i=>E (rot a p q i)) S.F=rF E S'.F:=by
  funext t
  unfold rF tv;cases hv:S.F.get t with
  |some v=>
   obtain⟨v',e1,e2⟩:=hF1 t v hv;rw [e1];show v.re _=v'.re E;rw [SV.ren_re,e2]
  |none=>
   have:=hF t
   rw [hv]at this;cases hv':S'.F.get t with
   |none=>rfl
   |some v'=>rw [hv']at this;cases this
 refine⟨⟨⟨?_, ?_, ?_⟩, ?_,h'.gp, ?_, ?_⟩,hrF, ?_,hag⟩
 ·refine h'.inv.hp.perm ?_;have e1:acw (fun i=>E (rot a p q i)) S.rb.H=((List.range S.H.nx).map (rot a p q)).map fun j=>resOf E j (hat S'.H j):=by
   rw [List.map_map];refine zas fun i hi=> ?_
   have hi:i<S.H.nx:=List.mem_range.1 hi;rw [hat_reb hi];show resOf _ i (hat S.H i)=resOf E (rot a p q i) (hat S'.H (rot a p q i));rw [<-hbe_ok (hH i hi)];exact resOf_ren E _ i (nolp_ren (hH i hi))
  rw [e1]
  show((List.range S'.H.nx).map fun j=>resOf E j (hat S'.H j)).Perm _
  refine List.Perm.map _ ?_;rw [<-h1];obtain⟨r,hr⟩:=Nat.exists_eq_add_of_le h2;rw [hr,List.range_eq_range'];have s1:List.range' 0 (a+p+q+r)=List.range' 0 a++(List.range' a p++(List.range' (a+p) q++List.range' (a+p+q) r)):=by
   rw [List.range'_append_1,List.range'_append_1,show a=0+a from by omega];simp only [zaz,Nat.add_assoc]
   have:=List.range'_append_1 (s:=0) (m:=a) (n:=p+(q+r))
   simp only [zaz]at this;exact this.symm
  have s2:List.range' 0 (a+p+q+r)=List.range' 0 a++(List.range' a q++(List.range' (a+q) p++List.range' (a+p+q) r)):=by
   have e:a+p+q=a+q+p:=by omega
   rw [e];rw [List.range'_append_1,List.range'_append_1]
   have:=List.range'_append_1 (s:=0) (m:=a) (n:=q+(p+r))
   simp only [zaz]at this;rw [this];congr 1
   omega
  rw [s1,List.map_append,List.map_append,List.map_append];rw [map_rot _ 0 0 a (fun i hi=>by rw [rot_eq,if_pos (by omega)]),map_rot _ a (a+q) p (fun i hi=>by rw [rot_eq,if_neg (by omega),if_pos (by omega)];omega),
   map_rot _ (a+p) a q (fun i hi=>by rw [rot_eq,if_neg (by omega),if_neg (by omega),if_pos (by omega)];omega),map_rot _ (a+p+q) (a+p+q) r (fun i hi=>by rw [rot_eq,if_neg (by omega),if_neg (by omega),if_neg (by omega)])]
  rw [<-s1,s2];refine List.Perm.append_left _ ?_;rw [<-zaN,<-zaN];exact List.Perm.append_right _ List.perm_append_comm
 ·exact fun i b hb=>(rb_get hb).1
 ·intro i b hb;obtain⟨hi,rfl⟩:=rb_get hb
  show(hat S.H i).ok S.H.nx
  refine HB.ren_ok hf (nolp_ren (hH i hi)) ?_;rw [hbe_ok (hH i hi),h1];exact h'.inv.hatok _
 ·intro t v hv;obtain⟨v',e1,e2⟩:=hF1 t v hv;refine SV.ren_ok hf ?_;rw [e2,h1];exact h'.fok t v' e1
 ·exact Mok.up (show a<=S.H.nx by omega) hm
 ·show Dok S.H.nx S.D;rw [h3,h1];exact h'.d
 ·rw [mdOf_ext hag hm hd,h3]
theorem rb_at(h:At C Gp m S w0 E w):At C Gp m S.rb w0 E w:=by
 refine⟨⟨?_,fun i b hb=>(rb_get hb).1, ?_⟩,h.fok,h.gp,h.m,h.d⟩
 ·have e:acw E S.rb.H=acw E S.H:=zas fun i hi=>by rw [hat_reb (S:=S) (List.mem_range.1 hi)]
  rw [e];exact h.inv.hp
 ·intro i b hb;obtain⟨hi,rfl⟩:=rb_get hb;exact h.inv.hatok i
end
open Go.Wk
open List renaming mem_cons_of_mem -> zau, mem_cons_self -> zat
open Nat renaming blt -> zar, le_refl -> zab, le_trans -> zax
open Option renaming rec -> zae
section
variable {C : Cx} {Gp : World -> Prop} {m : M} {S S' : T} {w0 w : World} {E E' : En} {K : Ks} {H : Hs}
theorem gpass_ok{ops:Array Oper}{o:Oper}{g:Bool}{n:Md}(hn:n.n=m.n)(h:gpass m ops S o=some g):Region.wanted o (yielded ops (fr n (rF E S.F)).tmps)=g:=by
 unfold gpass at h;cases hg:o.guard with
 |none=>
  rw [hg]at h;have e:true=g:=Option.some.inj h;subst e;simp [Region.wanted,hg]
 |some q=>
  obtain⟨gi,b⟩:=q;rw [hg]at h;obtain⟨dg,h1,h⟩:=aaa h;obtain⟨h2,h⟩:=aac h;have e1:oget (S.F.get dg)=tv S.F dg:=tv_rec S.F dg;rw [e1]at h;have h3:zar dg n.n=true:=by rw [hn];exact h2
  unfold Region.wanted;simp only [hg,aer (n:=n) ops gi dg h1 h3];rcases gval_ok h E with⟨hb,rfl⟩|⟨hb,rfl⟩|⟨hb,rfl⟩
  ·have:rF E S.F dg=.bool b:=hb
   rw [this];simp
  ·have:rF E S.F dg=.bool (!b):=hb
   rw [this];cases b<;>rfl
  ·have:rF E S.F dg=undef:=by
    show(tv S.F dg).re E=_
    rw [hb];rfl
   rw [this];simp [undef]
theorem yi_no{ops:Array Oper}{o:Oper}{n:Md}{Si:World->Prop}(hn:n.n=m.n)(h:gpass m ops S o=some false):YieldsIf C.P ops Si o undef (fr n (rF E S.F)):=.inr ⟨gpass_ok hn h,rfl⟩
theorem yi_yes{ops:Array Oper}{o:Oper}{n:Md}{Si:World->Prop}{v:Value}(hn:n.n=m.n)(h:gpass m ops S o=some true)(hr:∀w,Si w->(execOp (evn n (rF E S.F)) o).run C.P w=.ok (.value v) w):
  YieldsIf C.P ops Si o v (fr n (rF E S.F)):=.inl ⟨gpass_ok hn h,fun w hw=>by rw [acx];exact hr w hw⟩
theorem fact_at(hC:Cok C Gp){E0:En}{n0:Nat}{f:Fa}(h:At C Gp m S w0 E w)(ha:Ag n0 E0 E)(hx:f.x.ok n0)(hv:f.v.ok n0){v:SV}(hl:loadC C S f.t f.x=some v)(e:f.v=v):fact C.P E0 f w:=by
 obtain⟨A,h1,h2,h3⟩:=loadC_ok (h.sd hC) hl;subst e;exact⟨A,by rw [<-SC.ext ha hx];exact h1,by rw [<-SV.ext ha hv];exact h2⟩
theorem fact_kept(hC:Cok C Gp){E0:En}{n0 j:Nat}{f:Fa}{w':World}(h:At C Gp m S w0 E w')(ha:Ag n0 E0 E)(hx:f.x.ok n0)(hv:f.v.ok n0)(hc:chk1 C j S.H f=true):abv f.D (fact C.P E0 f) j w w':=by
 cases hD:f.D.contains j with
 |true=>exact abv.out hD
 |false=>
  have hc':bi (f.D.contains j) true (zae false (fun v=>SV.eqb f.v v) (loadC C ⟨.e,S.H,none⟩ f.t f.x))=true:=hc;rw [hD]at hc';have hc':(zae false (fun v=>SV.eqb f.v v) (loadC C ⟨.e,S.H,none⟩ f.t f.x):Bool)=true:=hc';have e1:loadC C ⟨.e,S.H,none⟩ f.t f.x=loadC C S f.t f.x:=rfl;rw [e1]at hc';cases hl:loadC C S f.t f.x with
  |none=>rw [hl]at hc';cases hc'
  |some v=>
   rw [hl]at hc';exact abv.new (fact_at hC h ha hx hv hl (sve_ok hc'))
structure Fin (C:Cx) (n0:Nat) (FS:List Fa):Prop where
 x:∀f∈FS,f.x.ok n0
 v:∀f∈FS,f.v.ok n0
def Sn(C:Cx)(FS:List Fa)(sn:List (Nat×Hs)):Prop:=∀p∈sn,∀f∈FS,chk1 C p.1 p.2 f=true
theorem chk_ok{n0:Nat}{fs:List Fa}{sn:List (Nat×Hs)}(h:chk C n0 fs sn=true):Fin C n0 fs/\Sn C fs sn:=by
 obtain⟨h1,h2⟩:=bb2 h;refine⟨⟨fun f hf=> ?_,fun f hf=> ?_⟩,fun p hp f hf=> ?_⟩
 ·exact sc_okb (bb2 (List.all_eq_true.1 h1 f hf)).1
 ·exact sv_okb (bb2 (List.all_eq_true.1 h1 f hf)).2
 ·exact List.all_eq_true.1 (List.all_eq_true.1 h2 p hp) f hf
theorem srel_at(hC:Cok C Gp){E0:En}{n0 j:Nat}{FS:List Fa}(hF:Fin C n0 FS){w':World}(h:At C Gp m S w0 E w')(ha:Ag n0 E0 E)(hc:∀f∈FS,chk1 C j S.H f=true):Srel C.P E0 FS j w w':=
 fun f hf=>fact_kept hC h ha (hF.x f hf) (hF.v f hf) (hc f hf)
theorem mem_lapp{α:Type}{l r:List α}{x:α}:x∈lapp l r↔x∈l\/x∈r:=by rw [afh];exact List.mem_append
theorem eqs_ok{a p q:Nat}{S S':T}(h:T.eqs a p q S S'=true):∃p' q',T.eqr a p' q' S S'=true:=by
 unfold T.eqs at h;cases e:T.eqr a (Nat.sub (Nat.sub S.H.nx a) q) q S S' with
 |true=>exact⟨_,_,e⟩
 |false=>rw [e]at h;exact⟨_,_,h⟩
theorem drawP_ok(hC:Cok C Gp)(hK:KsOk C Gp K){ops:Array Oper}{k n0:Nat}{E0:En}{FS:List Fa}(hs:adq ops k=true)(hF:Fin C n0 FS){Q:Exit->Act->World->Prop}:
  ∀{f:Nat} {l:List Bool} {pl:Pl},Fit ops k f l pl->∀(S:T) (r:Dr),drawP C K m ops pl S=some r->(∀x∈r.2.1,x∈FS)->Sn C FS r.2.2->
   ∀(E:En) (w:World),At C Gp m S w0 E w->Ag n0 E0 E->n0<=S.H.nx->
   Then C Gp m S r.1 w0 E (fun E' w'=>Go.Wk.W C.P (aeo E' m r.1.D) ops Q (ops.toList.drop k) (rF E' r.1.F) w')->
   Go.Wk.RO C.P (aeo E m S.D) ops Q (Srel C.P E0 FS) k f l (rF E S.F) w:=by
 intro f l pl hfit;induction hfit with
 | @dn l h=>
  intro S r hv hfs hsn E w h0 ha hn hk;have e:(S,([]:List Fa),([]:List (Nat×Hs)))=r:=Option.some.inj hv;subst e;exact rO_zero h (hk E w (Ag.refl _ _) (zab _) h0)
 | @pu f l i d o n h1 h2 h3 h4 h5 h6 ih=>
  intro S r hv hfs hsn E w h0 ha hn hk;obtain⟨g,hg,hv⟩:=aaa (show(ob (gpass m ops S o) fun g=>bi g (ob (valB C m S o) fun v=>drawP C K m ops n ⟨S.F.set d v,S.H,S.D⟩) (drawP C K m ops n ⟨S.F.set d .u,S.H,S.D⟩))=some r from hv);cases g with
  |false=>
   have hat:=at_set h0 (Ag.refl _ _) (zab _) h0.inv d (v:=.u) trivial
   have:=ih ⟨S.F.set d .u,S.H,S.D⟩ r hv hfs hsn E w hat ha hn hk
   simp only [rF_set]at this;exact rO_take (kn:=m.n) (kD:=dl E S.D) (ro:=ro E m) _ i d undef o h1 h2 hs h3 h4 h5 rfl (yi_no (n:=(aeo E m S.D)) rfl hg) this
  |true=>
   obtain⟨v,hv1,hv⟩:=aaa (show(ob (valB C m S o) fun v=>drawP C K m ops n ⟨S.F.set d v,S.H,S.D⟩)=some r from hv);have hsd:Sd C m S (aeo E m S.D) w0 E w:=⟨rfl,h0.inv,h0.fok,hC.g h0.gp⟩
   have hb:=fun w=>bare_ok hsd hv1 w
   have hat:=at_set h0 (Ag.refl _ _) (zab _) h0.inv d (v:=v) (hb w).2
   have:=ih ⟨S.F.set d v,S.H,S.D⟩ r hv hfs hsn E w hat ha hn hk
   simp only [rF_set]at this;exact rO_take (kn:=m.n) (kD:=dl E S.D) (ro:=ro E m) _ i d (v.re E) o h1 h2 hs h3 h4 h5 rfl (yi_yes (n:=(aeo E m S.D)) rfl hg fun w _=>(hb w).1) this
 | @ld f l i d o n D h1 h2 h3 h4 h5 hD h6 ih=>
  intro S r hv hfs hsn E w h0 ha hn hk;obtain⟨g,hg,hv⟩:=aaa (show(ob (gpass m ops S o) fun g=>bi g (ob (ldOf o.op) fun q=>ob (evC m S q.2) fun y=>ob (loadC C S q.1 y) fun v=>ob (drawP C K m ops n ⟨S.F.set d v,S.H,S.D⟩) fun p=>some (p.1,(⟨D,y,q.1,v⟩:Fa)::p.2.1,p.2.2)) (drawP C K m ops n ⟨S.F.set d .u,S.H,S.D⟩))=some r from hv);cases g with
  |false=>
   have hat:=at_set h0 (Ag.refl _ _) (zab _) h0.inv d (v:=.u) trivial
   have:=ih ⟨S.F.set d .u,S.H,S.D⟩ r hv hfs hsn E w hat ha hn hk
   simp only [rF_set]at this;exact rO_take (kn:=m.n) (kD:=dl E S.D) (ro:=ro E m) _ i d undef o h1 h2 hs h3 h4 h5 rfl (yi_no (n:=(aeo E m S.D)) rfl hg) this
  |true=>
   obtain⟨q,q1,hv⟩:=aaa (show(ob (ldOf o.op) fun q=>ob (evC m S q.2) fun y=>ob (loadC C S q.1 y) fun v=>ob (drawP C K m ops n ⟨S.F.set d v,S.H,S.D⟩) fun p=>some (p.1,(⟨D,y,q.1,v⟩:Fa)::p.2.1,p.2.2))=some r from hv);obtain⟨y,q2,hv⟩:=aaa hv;obtain⟨v,q3,hv⟩:=aaa hv;obtain⟨p,q4,hv⟩:=aaa hv;cases hv
   have hmem:(⟨D,y,q.1,v⟩:Fa)∈FS:=hfs _ zat;have hsd:Sd C m S (aeo E m S.D) w0 E w:=⟨rfl,h0.inv,h0.fok,hC.g h0.gp⟩
   obtain⟨A,l1,l2,l3⟩:=loadC_ok hsd q3;have hx:=(abo hsd q2).1;have hat:=at_set h0 (Ag.refl _ _) (zab _) h0.inv d (v:=v) l3
   have:=ih ⟨S.F.set d v,S.H,S.D⟩ p q4 (fun x hx=>hfs x (zau _ hx)) hsn E w hat ha hn hk
   simp only [rF_set]at this;refine rO_takeS (kn:=m.n) (kD:=dl E S.D) (ro:=ro E m) (Si:=fact C.P E0 ⟨D,y,q.1,v⟩) _ i d (v.re E) D (fun j w w' h=>h _ hmem) o h1 h2 hs hD h3 h4 h5 rfl (yi_yes (n:=(aeo E m S.D)) rfl hg ?_) (fact_at hC h0 ha (hF.x _ hmem) (hF.v _ hmem) q3 rfl) this;rintro w' ⟨A',f1,f2⟩
   have f1':y.re E=.pointer (some A'):=by rw [SC.ext ha (hF.x _ hmem)];exact f1
   rw [f1']at hx;have f2':(loadVar q.1 A').run C.P w'=.ok (v.re E) w':=by rw [SV.ext ha (hF.v _ hmem)];exact f2
   have ho:=ldOf_ok q1;unfold execOp;rw [ho];simp [hx,Instr.loadAt,Instr.sureAddr,f2']
 | @on f l i o n h1 h2 h5 h6 ih=>
  intro S r hv hfs hsn E w h0 ha hn hk;obtain⟨S1,q1,hv⟩:=aaa (show(ob (opG C K m ops S o) fun S1=>ob (drawP C K m ops n S1) fun p=>some (p.1,p.2.1,(i,S1.H)::p.2.2))=some r from hv);obtain⟨p,q2,hv⟩:=aaa hv;cases hv
  have hsn1:=hsn _ zat;refine rO_one1 (kn:=m.n) (kD:=dl E S.D) (ro:=ro E m) _ i o h1 h2 h5 rfl ?_;refine opG_wd hC hK h0 q1 [] _ ?_;intro E1 w1 a1 n1 at1;refine w_nil ?_;have hd:=opG_D q1;have hr:=ih S1 p q2 hfs (fun x hx=>hsn x (zau _ hx)) E1 w1 at1 (ha.trans a1 hn) (zax hn n1) (afc hk a1 n1);rw [hd,mdOf_ext a1 h0.m h0.d]at hr;exact rO_next (kn:=m.n) (kD:=dl E S.D) (ro:=ro E m) (srel_at hC hF at1 (ha.trans a1 hn) hsn1) hr
 | @tw f l i j o o' n n' h1 h1' h2 h5 h5' h6 h6' ih ih'=>
  intro S r hv hfs hsn E w h0 ha hn hk;obtain⟨S1,q1,hv⟩:=aaa (show(ob (opG C K m ops S o) fun S1=>ob (drawP C K m ops n S1) fun p=>ob (opG C K m ops S o') fun S2=>ob (drawP C K m ops n' S2) fun p'=>
   bi (p.1.eqb p'.1) (some (p.1,lapp p.2.1 p'.2.1,(i,S1.H)::(j,S2.H)::lapp p.2.2 p'.2.2))
   (bi (T.eqs S.H.nx (Nat.sub S1.H.nx S.H.nx) (Nat.sub S2.H.nx S.H.nx) p.1 p'.1) (some (p.1.rb,lapp p.2.1 p'.2.1,(i,S1.H)::(j,S2.H)::lapp p.2.2 p'.2.2)) none))=some r from hv)
  obtain⟨p,q2,hv⟩:=aaa hv;obtain⟨S2,q1',hv⟩:=aaa hv;obtain⟨p',q2',hv⟩:=aaa hv;obtain⟨r1,hr0,hk1,hk2⟩:∃r1,r=(r1,lapp p.2.1 p'.2.1,(i,S1.H)::(j,S2.H)::lapp p.2.2 p'.2.2)/\
    Then C Gp m S p.1 w0 E (fun E' w'=>Go.Wk.W C.P (aeo E' m p.1.D) ops Q (ops.toList.drop k) (rF E' p.1.F) w')/\
    Then C Gp m S p'.1 w0 E (fun E' w'=>Go.Wk.W C.P (aeo E' m p'.1.D) ops Q (ops.toList.drop k) (rF E' p'.1.F) w'):=by
   cases he:p.1.eqb p'.1 with
   |true=>
    rw [he]at hv;cases hv
    have e:p.1=p'.1:=te_ok he;exact⟨_,rfl,hk,by rw [<-e];exact hk⟩
   |false=>
    rw [he]at hv;obtain⟨q3,hv⟩:=aac (show bi (T.eqs S.H.nx (Nat.sub S1.H.nx S.H.nx) (Nat.sub S2.H.nx S.H.nx) p.1 p'.1) (some (p.1.rb,lapp p.2.1 p'.2.1,(i,S1.H)::(j,S2.H)::lapp p.2.2 p'.2.2)) none=some r from hv);cases hv
    obtain⟨_,_,q3⟩:=eqs_ok q3;refine⟨_,rfl,fun E' w' ha' hn' hat=>hk E' w' ha' hn' (rb_at hat),fun E' w' ha' hn' hat=> ?_⟩
    obtain⟨s1,s2,s3,s4⟩:=swap_at q3 hat h0.m;have hn2:S.H.nx<=p.1.H.nx:=by
     have:=nb (bb2 q3).1
     omega
    have:=hk _ w' (ha'.trans s4 (zab _)) hn2 s1
    have this:Go.Wk.W C.P (aeo _ m p.1.D) ops Q (ops.toList.drop k) (rF _ p.1.F) w':=this;rw [s2,s3]at this;exact this
  subst hr0;have hsn1:=hsn _ zat;have hsn2:=hsn _ (zau _ zat);refine rO_one2 (kn:=m.n) (kD:=dl E S.D) (ro:=ro E m) _ _ i j o o' h1 h1' h2 h5 h5' rfl rfl ?_ ?_
  ·refine opG_wd hC hK h0 q1 [] _ ?_;intro E1 w1 a1 n1 at1;refine w_nil ?_;have hd:=opG_D q1;have hr:=ih S1 p q2 (fun x hx=>hfs x (mem_lapp.2 (.inl hx))) (fun x hx=>hsn x (zau _ (zau _ (mem_lapp.2 (.inl hx))))) E1 w1 at1 (ha.trans a1 hn) (zax hn n1) (afc hk1 a1 n1);rw [hd,mdOf_ext a1 h0.m h0.d]at hr;exact rO_next (kn:=m.n) (kD:=dl E S.D) (ro:=ro E m) (srel_at hC hF at1 (ha.trans a1 hn) hsn1) hr
  ·refine opG_wd hC hK h0 q1' [] _ ?_;intro E1 w1 a1 n1 at1;refine w_nil ?_;have hd:=opG_D q1';have hr:=ih' S2 p' q2' (fun x hx=>hfs x (mem_lapp.2 (.inr hx))) (fun x hx=>hsn x (zau _ (zau _ (mem_lapp.2 (.inr hx))))) E1 w1 at1 (ha.trans a1 hn) (zax hn n1) (afc hk2 a1 n1);rw [hd,mdOf_ext a1 h0.m h0.d]at hr;exact rO_next (kn:=m.n) (kD:=dl E S.D) (ro:=ro E m) (srel_at hC hF at1 (ha.trans a1 hn) hsn2) hr
theorem draw_ok(hC:Cok C Gp)(hK:KsOk C Gp K){id:Nat}{ops:Array Oper}(m:M)(S S':T)(hv:drawE C K m ops S=some S')(w0:World)(E:En)(w:World)(Q:Exit->Act->World->Prop)(h:At C Gp m S w0 E w)(hq:NoP Q)
  (hk:Then C Gp m S S' w0 E (fun E' w'=>Q .normal (fr (aeo E' m S'.D) (rF E' S'.F)) w')):Go.Wk.C C.P (aeo E m S.D) Q (.region id ops true) (rF E S.F) w:=by
 obtain⟨h1,hv⟩:=aac hv;obtain⟨p,h2,hv⟩:=aaa hv;obtain⟨r,h3,hv⟩:=aaa hv;obtain⟨h4,h5⟩:=aac hv;obtain⟨k,pl⟩:=p;obtain⟨hs,hfit⟩:=planOf_ok h2;obtain⟨hF,hS⟩:=chk_ok h4;obtain⟨l⟩:=ops;have hD:(ro E m).isSome=true->NoD l.toArray:=by
  intro hm j o c hj hop;have h1':noDf l.toArray=true:=by
   obtain⟨mn,mm⟩:=m;cases mm with
   |none=>cases hm
   |some x=>exact h1
  have h6:=List.all_eq_true.1 h1' o (by
   have:=List.mem_of_getElem? (show l[j]? =some o by simpa using hj)
   simpa using this)
  rw [hop]at h6;cases h6
 refine c_drawnO (kn:=m.n) (kD:=dl E S.D) (ro:=ro E m) k (Srel C.P E r.2.1) _ (srel_refl _ _ _) hC.mo hs h.inv.hp rfl hq hD fun w' hH=> ?_
 have hat:At C Gp m S w0 E w':=⟨⟨hH,h.inv.lt,h.inv.ok⟩,h.fok,h.gp,h.m,h.d⟩
 refine drawP_ok hC hK hs hF hfit S r h3 (fun _ hx=>hx) hS E w' hat (Ag.refl _ _) (zab _) ?_;intro E' w'' a' n' at';have h5':opsE C K m l.toArray (l.drop k) r.1=some S':=by
  rw [<-ldrop_eq];exact h5
 exact opsE_ok hC hK _ r.1 S' E' w'' at' h5' Q (afc hk a' n')
end
open Go.Wk
open List renaming map_cons -> zav, mem_cons_self -> zat
open Nat renaming blt -> zar, le_refl -> zab
section
variable {C : Cx} {Gp : World -> Prop} {m : M} {S S' : T} {w0 w : World} {E E' : En} {K : Ks} {H : Hs}
theorem run_none{c:Code}:afn C Gp (fun m S=>eNone K m S) c:=fun m S e S' hv=>by cases hv
theorem exec_ok(hC:Cok C Gp)(hK:KsOk C Gp K)(c:Code):afn C Gp (fun m S=>exec C c K m S) c:=by
 induction c with
 |skip=>exact run_skip (K:=K) (.inl rfl)
 |region id ops d=>exact run_region hC hK fun m S S' hv w0 E w Q h hq hk=>draw_ok hC hK m S S' hv w0 E w Q h hq hk
 |seq x y hx hy=>exact run_seq hx hy
 |cond c x y hx hy=>exact run_cond hC hx hy
 |block id x hx=>exact run_block hx
 |loop x hx=>exact run_loop hx
 |rangeFunc f ps asg body _ _=>exact run_range (xa:=exec C asg) (xb:=exec C body) hC hK
 |exit id=>exact run_exit (K:=K)
 |scope x hx=>exact run_scope hx
 |label l=>exact run_skip (K:=K) (.inr ⟨l,rfl⟩)
 |goto l=>exact run_none (K:=K)
 |ret=>exact run_ret (K:=K)
 |_=>exact run_none (K:=K)
theorem setL_get:∀(l:List SV) (F:Tr SV) (k t:Nat),(setL F k l).get t=if k<=t/\t<k+l.length then l[t-k]? else F.get t
 |[],F,k,t=>by rw [if_neg (fun h=>by have h1:=h.1;have h2:=h.2;simp at h2;omega)];rfl
 |v::l,F,k,t=>by
  have h:=setL_get l (F.set k v) (k+1) t;have e:setL F k (v::l)=setL (F.set k v) (k+1) l:=rfl;rw [e,h,Tr.get_set];by_cases h1:t=k
  ·subst h1;rw [if_neg (by omega),if_pos rfl,if_pos (by simp)];simp
  ·rw [if_neg h1];by_cases h2:k+1<=t/\t<k+1+l.length
   ·rw [if_pos h2,if_pos (by simp;omega)];obtain⟨j,rfl⟩:∃j,t=k+1+j:=⟨t-(k+1),by omega⟩
    rw [show k+1+j-(k+1)=j by omega,show k+1+j-k=j+1 by omega];rfl
   ·rw [if_neg h2,if_neg (by simp;omega)]
theorem setL_args(E:En)(vs:List SV):rF E (setL .e 0 vs)=argF (vs.map (SV.re E)):=by
 funext t
 unfold rF tv argF;rw [setL_get];by_cases h:0<=t/\t<0+vs.length
 ·rw [if_pos h];have h2:t<vs.length:=by omega
  simp [h2]
 ·rw [if_neg h,Tr.get_e];have h2:vs.length<=t:=by omega
  simp [h2,SV.re]
theorem setL_ok{n:Nat}{vs:List SV}(h:∀x∈vs,x.ok n):Fok n (setL .e 0 vs):=by
 intro t v hv;rw [setL_get]at hv;split at hv
 ·exact h v (List.mem_of_getElem? hv)
 ·rw [Tr.get_e]at hv;cases hv
theorem resE_ok(hC:Cok C Gp)(h:At C Gp m S w0 E w){k:Nat}{n:Md}(hn:n.n=k){x:ResultVar}{a:SA}(hv:resE C ⟨k,none⟩ S x=some a):(Go.Wk.resOf (fr n (rF E S.F)).tmps x).run C.P w=.ok (a.re E) w/\a.ok S.H.nx:=by
 have hsd:Sd C ⟨k,none⟩ S n w0 E w:=⟨hn,h.inv,h.fok,hC.g h.gp⟩
 cases x with
 |tmp t=>
  obtain⟨v,h1,h2⟩:=aaa (show(ob (evO ⟨k,none⟩ S (.tmp t)) SV.sa)=some a from hv);obtain⟨h3,h4⟩:=afp hsd h1;refine⟨?_,SV.sa_ok h2 h4⟩
  have h3':(bif zar t n.n then rF E S.F t else undef)=v.re E:=h3;rw [SV.sa_r h2];simp only [Go.Wk.resOf,fr_get,h3',Sem.run_pure]
 |cell b t=>
  obtain⟨v,h1,h2⟩:=aaa (show(ob (opLoad C ⟨k,none⟩ S t (.tmp b)) SV.sa)=some a from hv);obtain⟨y,h3,h4⟩:=aaa h1;obtain⟨A,l1,l2,l3⟩:=loadC_ok hsd h4;have hx:=(abo hsd h3).1;rw [l1]at hx;refine⟨?_,SV.sa_ok h2 l3⟩
  have hx':(bif zar b n.n then rF E S.F b else undef)=.pointer (some A):=hx;rw [SV.sa_r h2];simp only [Go.Wk.resOf,fr_get,hx',asAddr,Sem.run_bind,Sem.run_pure,Result.andThen_ok,l2]
theorem resL_ok(hC:Cok C Gp)(h:At C Gp m S w0 E w){k:Nat}{n:Md}(hn:n.n=k):∀{l:List ResultVar} {azq:List SA},resL C ⟨k,none⟩ S l=some azq->
  l.length=azq.length/\(∀(i:Nat) (x:ResultVar) (v:Value),l[i]? =some x->(azq.map (SA.re E))[i]? =some v->(Go.Wk.resOf (fr n (rF E S.F)).tmps x).run C.P w=.ok v w)/\∀a∈azq,a.ok S.H.nx
 |[],azq,hv=>by
  have e:[]=azq:=Option.some.inj hv;subst e;exact⟨rfl,fun i x v h=>by simp at h,fun a h=>by cases h⟩
 |x::l,azq,hv=>by
  obtain⟨a,h1,hv⟩:=aaa hv;obtain⟨q,h2,hv⟩:=aaa hv;cases hv
  obtain⟨r1,r2⟩:=resE_ok hC h hn h1;obtain⟨i1,i2,i3⟩:=resL_ok hC h hn (show resL C ⟨k,none⟩ S l=some q from h2);refine⟨by simp [i1], ?_, ?_⟩
  ·intro i y v hy hv;cases i with
   |zero=>
    simp at hy hv
    subst hy;subst hv;exact r1
   |succ i=>exact i2 i y v (by simpa using hy) (by simpa using hv)
  ·intro b hb;rcases List.mem_cons.1 hb with rfl|hb
   ·exact r2
   ·exact i3 b hb
theorem one_ok{n:Nat}{azq:List SA}(h:∀a∈azq,a.ok n):(oneV azq).ok n:=by
 cases azq with
 |nil=>exact fun x hx=>by cases hx
 |cons a l=>cases l with
  |nil=>exact SA.sv_ok (h a zat)
  |cons b l=>exact h
theorem one_re(E:En)(azq:List SA):(match azq.map (SA.re E)with|[u]=>u|us=>.tuple us.toArray)=(oneV azq).re E:=by
 cases azq with
 |nil=>rfl
 |cons a l=>cases l with
  |nil=>exact(SA.sv_r E a).symm
  |cons b l=>rfl
theorem results_ok(hC:Cok C Gp)(h:At C Gp m S w0 E w){k:Nat}{fn:Func}{azq:List SA}(hv:resL C ⟨k,none⟩ S fn.results.toList=some azq)(D:List Deferred)(r:Option (Option Nat)):
  (results fn (fr ⟨k,D,r⟩ (rF E S.F)).tmps).run C.P w=.ok ((oneV azq).re E) w/\(oneV azq).ok S.H.nx:=by
 obtain⟨h1,h2,h3⟩:=resL_ok hC h (n:=⟨k,D,r⟩) rfl hv;refine⟨?_,one_ok h3⟩
 have hm:=run_mapM (P:=C.P) (w:=w) (Go.Wk.resOf (fr ⟨k,D,r⟩ (rF E S.F)).tmps) fn.results.toList (azq.map (SA.re E)) (by simp [h1]) h2;unfold results;obtain⟨l,hr⟩:∃l:List ResultVar,fn.results=l.toArray:=⟨fn.results.toList,by simp⟩
 rw [hr]at hm⊢;change Sem.run C.P (do let vs<-l.toArray.mapM (Go.Wk.resOf (fr ⟨k,D,r⟩ (rF E S.F)).tmps);pure (if h:vs.size=1 then vs[0]else .tuple vs)) w=_
 simp only [List.mapM_toArray,Sem.run_bind,Sem.run_map];rw [hm];simp only [Result.andThen_ok,Sem.run_pure];rw [<-one_re];congr 1
 generalize azq.map (SA.re E)=vs;cases vs with
 |nil=>simp
 |cons u us=>cases us with
  |nil=>simp
  |cons u' us=>simp
theorem mdF_two(c:Code)(vs:List SV):mdF c vs=none\/mdF c vs=some none:=by
 unfold mdF;cases hasRF c with
 |true=>exact .inr rfl
 |false=>cases anyY vs with
  |true=>exact .inr rfl
  |false=>exact .inl rfl
theorem onX'_some{r:RT}{k:T->Option (SV×Hs)}{v:SV×Hs}(h:runF.onX' r k=some v):∃e S,r=some (e,S)/\(e=.nm\/e=.rt)/\k S=some v:=by
 cases r with
 |none=>cases h
 |some p=>
  obtain⟨e,S⟩:=p;cases e with
  |nm=>exact⟨_,S,rfl,.inl rfl,h⟩
  |rt=>exact⟨_,S,rfl,.inr rfl,h⟩
  |xt id=>cases h
theorem isDf_ok{b:HB}(h:b.isDf=true):b=.df:=by
 cases b<;>first|rfl|cases h
def calm(Q:Exit->Act->World->Prop):Exit->Act->World->Prop
 |.panic _,_,_=>False
 |e,a,w=>Q e a w
theorem calm_le{Q:Exit->Act->World->Prop}:∀e a w,calm Q e a w->Q e a w:=by
 intro e a w h;cases e<;>first|exact h|cases h
theorem calm_np{Q:Exit->Act->World->Prop}:NoP (calm Q):=fun _ _ _ h=>h
theorem C_mono{P:Program}{n:Md}{Q Q':Exit->Act->World->Prop}{c:Code}{F:Nat->Value}{w:World}(hq:∀e a w,Q e a w->Q' e a w)(h:Go.Wk.C P n Q c F w):Go.Wk.C P n Q' c F w:=by
 obtain⟨k,D,ro⟩:=n;unfold Go.Wk.C CC at h⊢;cases ro with
 |none=>exact Code.wp_mono hq h
 |some x=>exact Code.wpIn_mono hq h
theorem body_ok(hC:Cok C Gp)(hK:KsOk C Gp K)(k:Nat):adf C Gp (bodyE C K k) k:=by
 intro vs H v H' hv w0 E w hg inv hok;obtain⟨fn,h1,hv⟩:=aaa hv;obtain⟨c,h2,hv⟩:=aaa hv;obtain⟨h3,hv⟩:=aac hv;have hlen:(vs.map (SV.re E)).length<=fn.ntmps:=by rw [aae,aaz]at h3;simpa using h3
 refine⟨⟨fn,c,h1,h2,hC.ng k fn h1⟩, ?_⟩
 obtain⟨e,S,hx,he,hv⟩:=onX'_some hv;obtain⟨hD,hv⟩:=aac hv;obtain⟨S2,hu,hv⟩:=aaa hv;obtain⟨azq,hr,hv⟩:=aaa hv;cases hv
 have hat:At C Gp ⟨fn.ntmps,mdF c vs⟩ ⟨setL .e 0 vs,H,none⟩ w0 E w:=by
  refine⟨inv,setL_ok hok,hg,fun l hl=> ?_,fun r hr=>by cases hr⟩
  rcases mdF_two c vs with h|h
  ·have hl':mdF c vs=some (some l):=hl;rw [h]at hl';cases hl'
  ·have hl':mdF c vs=some (some l):=hl;rw [h]at hl';cases hl'
 rcases mdF_two c vs with hm|hm
 ·rw [hm]at hx hat hD;have hDn:S.D=none:=by
   cases hd:S.D with
   |none=>rfl
   |some d=>rw [hd]at hD;cases hD
  have hS:S=S2:=by
   unfold undf at hu;rw [hDn]at hu;exact Option.some.inj hu
  subst hS;refine enter (k:=fn.ntmps) h1 h2 rfl hlen ?_;rw [<-setL_args];refine exec_ok hC hK c _ _ e S hx w0 E w _ hat afg ?_;intro E' w' a' n' at';obtain⟨q1,q2⟩:=results_ok hC at' hr [] none;have hres:∃E',Ag H.nx E E'/\H.nx<=S.H.nx/\Inv w0 E' S.H w'/\(oneV azq).ok S.H.nx/\(oneV azq).re E'=(oneV azq).re E':=⟨E',a',n',at'.inv,q2,rfl⟩
  rw [hDn];have hres:∃E'',Ag H.nx E E''/\H.nx<=S.H.nx/\Inv w0 E'' S.H w'/\(oneV azq).ok S.H.nx/\(oneV azq).re E'=(oneV azq).re E'':=⟨E',a',n',at'.inv,q2,rfl⟩
  rcases he with rfl|rfl
  ·exact⟨rfl,_,q1,_,rfl,hres⟩
  ·exact⟨rfl,_,q1,_,rfl,hres⟩
 ·rw [hm]at hx hat;refine enterM (k:=fn.ntmps) h1 h2 rfl hlen ?_;rw [<-setL_args];refine C_mono (Q:=calm (bodyPostM Fence.wide 0 C.P fn fun e w'=>∃v,e=.returned v/\∃E'',Ag H.nx E E''/\H.nx<=S2.H.nx/\Inv w0 E'' S2.H w'/\(oneV azq).ok S2.H.nx/\v=(oneV azq).re E'')) calm_le ?_;refine exec_ok hC hK c _ _ e S hx w0 E w _ hat calm_np ?_;intro E' w' a' n' at'
  suffices hs:bodyPostM Fence.wide 0 C.P fn (fun e w'=>∃v,e=.returned v/\∃E'',Ag H.nx E E''/\H.nx<=S2.H.nx/\Inv w0 E'' S2.H w'/\(oneV azq).ok S2.H.nx/\v=(oneV azq).re E'') .ret (fr (aeo E' ⟨fn.ntmps,some none⟩ S.D) (rF E' S.F)) w' by
   rcases he with rfl|rfl
   ·exact m_norm hs
   ·exact hs
  cases hd:S.D with
  |none=>
   have hS:S=S2:=by
    unfold undf at hu;rw [hd]at hu;exact Option.some.inj hu
   subst hS;obtain⟨q1,q2⟩:=results_ok hC at' hr [] none;exact m_res0 ⟨_,q1,E',a',n',at'.inv,q2,rfl⟩
  |some d=>
   unfold undf at hu;rw [hd]at hu;obtain⟨b,hb,hu⟩:=aaa (show(ob (S.H.t.get d) fun b=>bi b.isDf (some (⟨S.F,S.H.upd d .gn,none⟩:T)) none)=some S2 from hu);obtain⟨hb2,hu⟩:=aac hu;cases hu
   obtain rfl:=isDf_ok hb2;have hlt:d<S.H.nx:=at'.inv.lt d _ hb;have hk:(acw E' S.H)[d]? =some (dfr (E' d).1):=at'.inv.at hb;refine m_res1 at'.inv.hp d (E' d).1 hk ?_;intro w2 hp2;have hlen2:d<(acw E' S.H).length:=by rw [aef];exact hlt
   have hp3:=(hp2.front d _ (List.getElem?_set_self hlen2)).tail;rw [List.eraseIdx_set_eq]at hp3;have inv2:Inv w0 E' (S.H.upd d .gn) w2:=at'.inv.upd hlt trivial (Hp.perm (hp_gn hp3) (set_perm _ _ _ hlen2).symm);have at2:At C Gp ⟨fn.ntmps,none⟩ ⟨S.F,S.H.upd d .gn,none⟩ w0 E' w2:=⟨inv2,at'.fok,at'.gp,fun l hl=>(by cases hl),fun r hr=>(by cases hr)⟩
   obtain⟨q1,q2⟩:=results_ok hC at2 hr [] none;exact⟨_,q1,E',a',n',inv2,q2,rfl⟩
theorem sc_pl{x:SC}(h:x.pl=true)(n:Nat)(E E':En):x.ok n/\x.re E=x.re E':=by
 cases x with
 |p i o=>cases h
 |sl i o m c=>cases h
 |y i=>cases h
 |m i=>cases h
 |z i b dd off=>cases h
 |fn f l=>
  cases l with
  |nil=>exact⟨fun i hi=>(by cases hi),rfl⟩
  |cons a l=>cases h
 |_=>exact⟨trivial,rfl⟩
theorem plL_ok{l:List SC}(n:Nat)(E E':En):plL l=true->(∀x∈l,x.ok n)/\l.map (SC.re E)=l.map (SC.re E'):=by
 induction l with
 |nil=>exact fun _=>⟨fun x hx=>(by cases hx),rfl⟩
 |cons x l ih=>
  intro h;obtain⟨h1,h2⟩:=bb2 (show bi x.pl (plL l) false=true from h);obtain⟨i1,i2⟩:=ih h2;obtain⟨j1,j2⟩:=sc_pl h1 n E E';refine⟨fun y hy=> ?_,by rw [zav,zav,i2,j2]⟩
  rcases List.mem_cons.1 hy with rfl|hy
  ·exact j1
  ·exact i1 y hy
theorem sa_pl{x:SA}(h:x.pl=true)(n:Nat)(E E':En):x.ok n/\x.re E=x.re E':=by
 cases x with
 |c x=>exact sc_pl h n E E'
 |a l=>obtain⟨h1,h2⟩:=plL_ok n E E' (show plL l=true from h);exact⟨h1,by simp only [SA.re];rw [h2]⟩
theorem plT_ok{l:List SA}(n:Nat)(E E':En):plT l=true->(∀x∈l,x.ok n)/\l.map (SA.re E)=l.map (SA.re E'):=by
 induction l with
 |nil=>exact fun _=>⟨fun x hx=>(by cases hx),rfl⟩
 |cons x l ih=>
  intro h;obtain⟨h1,h2⟩:=bb2 (show bi x.pl (plT l) false=true from h);obtain⟨i1,i2⟩:=ih h2;obtain⟨j1,j2⟩:=sa_pl h1 n E E';refine⟨fun y hy=> ?_,by rw [zav,zav,i2,j2]⟩
  rcases List.mem_cons.1 hy with rfl|hy
  ·exact j1
  ·exact i1 y hy
theorem sv_pl{x:SV}(h:x.pl=true)(n:Nat)(E E':En):x.ok n/\x.re E=x.re E':=by
 cases x with
 |c x=>exact sc_pl h n E E'
 |a l=>obtain⟨h1,h2⟩:=plL_ok n E E' (show plL l=true from h);exact⟨h1,by simp only [SV.re];rw [h2]⟩
 |t l=>obtain⟨h1,h2⟩:=plT_ok n E E' (show plT l=true from h);exact⟨h1,by simp only [SV.re];rw [h2]⟩
 |u=>exact⟨trivial,rfl⟩
theorem plV_ok{l:List SV}(n:Nat)(h:plV l=true):∀x∈l,x.ok n:=by
 induction l with
 |nil=>exact fun x hx=>by cases hx
 |cons x l ih=>
  obtain⟨h1,h2⟩:=bb2 (show bi x.pl (plV l) false=true from h);intro y hy;rcases List.mem_cons.1 hy with rfl|hy
  ·exact(sv_pl h1 n (fun _=>(0,0)) (fun _=>(0,0))).1
  ·exact ih h2 y hy
def Xok(C:Cx)(Gp:World->Prop):Prop:=∀k f,C.X k=some f->adf C Gp f k
theorem callK_ok(hC:Cok C Gp)(hX:Xok C Gp)(hK:KsOk C Gp K)(k:Nat):adf C Gp (callK C K k) k:=by
 intro vs H v H' hv w0 E w hg inv hok;unfold callK at hv;cases hx:C.X k with
 |some f=>
  rw [hx]at hv;exact hX k f hx vs H v H' hv w0 E w hg inv hok
 |none=>
  rw [hx]at hv;have hv:bi (C.pure k) (bi (plV vs) (ob (bodyE C K k vs H0) fun r=>bi r.1.pl (some (r.1,H)) none) none) (bodyE C K k vs H)=some (v,H'):=hv;rw [aat]at hv;split at hv
  ·obtain⟨hp,hv⟩:=aac hv;obtain⟨r,h1,hv⟩:=aaa hv;obtain⟨h2,hv⟩:=aac hv;cases hv
   obtain⟨hE,hc⟩:=body_ok hC hK k vs H0 r.1 r.2 h1 w E w (hC.gp hg inv.hp) (inv_bare E 0 w) (plV_ok 0 hp);refine⟨hE,CR.mono hc ?_⟩
   rintro V w' ⟨E',g1,g2,g3,g4,rfl⟩
   exact⟨E,Ag.refl _ _,zab _,⟨inv.hp.call g3.hp.nil,inv.lt,inv.ok⟩,(sv_pl h2 _ E E).1,(sv_pl h2 0 E' E).2⟩
  ·exact body_ok hC hK k vs H v H' hv w0 E w hg inv hok
theorem lev_ok(hC:Cok C Gp)(hX:Xok C Gp):∀n,KsOk C Gp (lev C n)
 |0=>⟨fun k vs H v H' hv=>(by cases hv),fun c m S e S' hv=>(by cases hv)⟩
 |n+1=>⟨fun k=>callK_ok hC hX (lev_ok hC hX n) k,fun c=>exec_ok hC (lev_ok hC hX n) c⟩
theorem run_says(hC:Cok C Gp)(hX:Xok C Gp){n k:Nat}{vs:List SV}{v:SV}{H':Hs}(h:(lev C n).call k vs H0=some (v,H'))(hp:plV vs=true)(hp':v.pl=true)(hg:Gp w)(E:En):
  Enters C.P k/\CR C.P k (vs.map (SV.re E)) w fun V w'=>V=v.re E/\Hp w [] [] w':=by
 obtain⟨hE,hc⟩:=(lev_ok hC hX n).call k vs H0 v H' h w E w hg (inv_bare E 0 w) (plV_ok 0 hp);refine⟨hE,CR.mono hc ?_⟩
 rintro V w' ⟨E',g1,g2,g3,g4,rfl⟩
 exact⟨(sv_pl hp' 0 E' E).2,g3.hp.nil⟩
end
open Go.Wk Go.Px
open List renaming flatMap_cons -> zaB, length_append -> zak, length_map -> zaq, map_cons -> zav, mem_cons_of_mem -> zau, mem_cons_self -> zat, rec -> zaA, take_of_length_le -> zaH
open Nat renaming add -> zay, beq -> zaf, ble -> zah, le_refl -> zab, mod -> zaK, mul_le_mul_right -> zao
open Option renaming rec -> zae
open UInt8 renaming ofNat -> zaD
theorem cvc_pl{v:Value}{x:SC}(h:cvc v=some x):x.pl=true:=by
 unfold cvc at h;split at h
 all_goals first|(cases h;rfl)|(obtain⟨_,h⟩:=aac h;cases h;rfl)|cases h
theorem cvs_pl:∀{vs:List Value} {l:List SC},cvs vs=some l->plL l=true
 |[],l,h=>by cases h;rfl
 |v::vs,l,h=>by
  obtain⟨x,h1,h⟩:=aaa h;obtain⟨xs,h2,h⟩:=aaa h;cases h
  show bi x.pl (plL xs) false=true;rw [cvc_pl h1,cvs_pl h2];rfl
theorem cv_pl{v:Value}{x:SV}(h:cv v=some x):x.pl=true:=by
 unfold cv at h;split at h
 ·obtain⟨xs,h1,h⟩:=aaa h;cases h
  exact cvs_pl h1
 ·obtain⟨y,h1,h⟩:=aaa h;cases h
  exact cvc_pl h1
noncomputable def cvl(l:List Value):Option (List SA):=zaA (some []) (fun v _ r=>ob (cv v) fun x=>ob x.sa fun a=>ob r fun q=>some (a::q)) l
noncomputable def cvT(l:List Value):Option SV:=ob (cvl l) fun q=>some (.t q)
theorem sa_pl'{x:SV}{a:SA}(h:x.sa=some a)(hp:x.pl=true):a.pl=true:=by
 cases x<;>first|(cases h;exact hp)|cases h
theorem cvl_ok(E:En):∀{l:List Value} {q:List SA},cvl l=some q->q.map (SA.re E)=l/\plT q=true
 |[],q,h=>by
  have e:[]=q:=Option.some.inj h;subst e;exact⟨rfl,rfl⟩
 |v::l,q,h=>by
  obtain⟨x,h1,h⟩:=aaa h;obtain⟨a,h2,h⟩:=aaa h;obtain⟨q',h3,h⟩:=aaa h;cases h
  obtain⟨i1,i2⟩:=cvl_ok E (show cvl l=some q' from h3);refine⟨by rw [zav,i1,SV.sa_r h2,(afv h1 E 0).1], ?_⟩
  show bi a.pl (plT q') false=true;rw [sa_pl' h2 (cv_pl h1),i2];rfl
theorem cvT_ok{l:List Value}{v:SV}(h:cvT l=some v)(E:En):v.re E=.tuple l.toArray/\v.pl=true:=by
 obtain⟨q,h1,h⟩:=aaa h;cases h
 obtain⟨h2,h3⟩:=cvl_ok E h1;exact⟨by simp only [SV.re];rw [h2],h3⟩
noncomputable def xs2(f:Str->Str->Option SV)(vs:List SV)(H:Hs):Option (SV×Hs):=
 match vs with
 |[.c (.s l x),.c (.s m y)]=>ob (f (dec l x) (dec m y)) fun v=>some (v,H)
 |_=>none
noncomputable def xsb(f:Str->UInt8->Option SV)(vs:List SV)(H:Hs):Option (SV×Hs):=
 match vs with
 |[.c (.s l x),.c (.i .u8 n)]=>ob (f (dec l x) (zaD n)) fun v=>some (v,H)
 |_=>none
noncomputable def xi(f:Int->Option SV)(vs:List SV)(H:Hs):Option (SV×Hs):=
 match vs with
 |[.c (.i .i64 n)]=>ob (f (ures .i64 (zaK n (km .i64)))) fun v=>some (v,H)
 |_=>none
noncomputable def cstOf(xs:List SC):Option (List Str):=zaA (some []) (fun x _ r=>ob x.asS fun q=>ob r fun l=>some (dec q.1 q.2::l)) xs
noncomputable def hcut(H:Hs)(i base n:Nat):Option (List SC):=ob (cellsOf ⟨.e,H,none⟩ i) fun xs=>bi (zah (zay base n) (aey xs)) (some (ltake (ldrop xs base) n)) none
noncomputable def splR(et:Nat)(H:Hs)(r:List Str):Option (SV×Hs):=
 bi r.isEmpty none (some (.c (.sl H.nx (nat_lit 0) (aey r) (.r (nat_lit 0))),H.add (.cl et (.rw (nat_lit 1) (aey r)) (r.map fun a=>.s (aey a) (enc a)))))
noncomputable def xsplit(et:Nat)(vs:List SV)(H:Hs):Option (SV×Hs):=
 match vs with
 |[.c (.s l x),.c (.s m y)]=>bi (zaf m (nat_lit 1)) (bi (zah l (nat_lit 1000000000)) (splR et H (spl (zaD y) (dec l x))) none) none
 |_=>none
noncomputable def xjoin(vs:List SV)(H:Hs):Option (SV×Hs):=
 match vs with
 |[.c (.sl i base n c),.c (.s m y)]=>bi (capOk ⟨.e,H,none⟩ i n c) (ob (hcut H i base n) fun xs=>ob (cstOf xs) fun l=>bi (zah (aey l) (nat_lit 1000000000)) (bi (zah (aey (Lib.join l (dec m y))) (nat_lit 100000000000))
  (ob (cv (str (Lib.join l (dec m y)))) fun v=>some (v,H)) none) none) none
 |[.c .ns,.c (.s m y)]=>ob (cv (str [])) fun v=>some (v,H)
 |_=>none
noncomputable def xbix(vs:List SV)(H:Hs):Option (SV×Hs):=
 match vs with
 |[.c (.sl i base n c),.c (.sl j base' k c')]=>bi (capOk ⟨.e,H,none⟩ i n c) (ob (hcut H i base n) fun xs=>ob (encC xs) fun p=>ob (hcut H j base' k) fun ys=>ob (encC ys) fun q=>bi (zah n (nat_lit 1000000000)) (bi (zah k (nat_lit 1000000000))
  (ob (cv (.int .i64 (Lib.index (dec n p) (dec k q)))) fun v=>some (v,H)) none) none) none
 |[.c .ns,.c (.sl j base' k c')]=>bi (zah (nat_lit 2) k) (bi (zah k (nat_lit 1000000000)) (ob (cv (.int .i64 (-1))) fun v=>some (v,H)) none) none
 |_=>none
noncomputable def xccR(t i:Nat)(H:Hs)(a s:SC):Option (SV×Hs):=
 bi (zae a.isPt (fun p=>bi (zaf p.1 i) (zaf p.2 (nat_lit 0)) false) a.asP) (some (.t [],H.upd i (.cl t .ex [.p i (nat_lit 0),s]))) none
noncomputable def xcc(t:Nat)(vs:List SV)(H:Hs):Option (SV×Hs):=
 match vs with
 |[.c (.p i o)]=>bi (zaf o (nat_lit 0)) (ob (H.t.get i) fun b=>ob b.asC fun q=>bi (zaf q.1 t) (bi (Mo.rec true (fun _ _=>false) false false q.2.1) (match q.2.2 with
  |[a,s]=>xccR t i H a s
  |_=>none) none) none) none
 |_=>none
section
variable {C : Cx} {Gp : World -> Prop} {w0 w : World} {E E' : En} {H : Hs} {k : Nat}
theorem ext_plain(hC:Cok C Gp)(hE:Enters C.P k){vs:List SV}{v:SV}(hp:v.pl=true)(hc:∀E w,Gp w->CR C.P k (vs.map (SV.re E)) w fun V w'=>V=v.re E/\Hp w [] [] w')(hg:Gp w0)(inv:Inv w0 E H w):
  Enters C.P k/\CR C.P k (vs.map (SV.re E)) w fun V w'=>∃E',Ag H.nx E E'/\H.nx<=H.nx/\Inv w0 E' H w'/\v.ok H.nx/\V=v.re E':=by
 refine⟨hE,CR.mono (hc E w (hC.gp hg inv.hp)) ?_⟩
 rintro V w' ⟨rfl,hp'⟩
 exact⟨E,Ag.refl _ _,zab _,⟨inv.hp.call hp',inv.lt,inv.ok⟩,(sv_pl hp _ E E).1,rfl⟩
theorem xs2_ok(hC:Cok C Gp)(hE:Enters C.P k){f:Str->Str->Option SV}(hf:∀a b v,f a b=some v->v.pl=true/\∀E w,Gp w->CR C.P k [str a,str b] w fun V w'=>V=v.re E/\Hp w [] [] w'):adf C Gp (xs2 f) k:=by
 intro vs H v H' hv w0 E w hg inv hok;unfold xs2 at hv;split at hv
 ·rename_i l x m y;obtain⟨u,h1,hv⟩:=aaa hv;cases hv
  obtain⟨h2,h3⟩:=hf _ _ _ h1;exact ext_plain hC hE h2 (fun E w hw=>h3 E w hw) hg inv
 ·cases hv
theorem xsb_ok(hC:Cok C Gp)(hE:Enters C.P k){f:Str->UInt8->Option SV}(hf:∀a b v,f a b=some v->v.pl=true/\∀E w,Gp w->CR C.P k [str a,bt b] w fun V w'=>V=v.re E/\Hp w [] [] w'):adf C Gp (xsb f) k:=by
 intro vs H v H' hv w0 E w hg inv hok;unfold xsb at hv;split at hv
 ·rename_i l x n;obtain⟨u,h1,hv⟩:=aaa hv;cases hv
  obtain⟨h2,h3⟩:=hf _ _ _ h1;refine ext_plain hC hE h2 (fun E w hw=> ?_) hg inv;have e:(SV.c (.i .u8 n)).re E=bt (zaD n):=by
   show Value.int .u8 (IntKind.u8.wrap n)=Value.int .u8 ((zaD n).toNat:Int);congr 1
  have:=h3 E w hw
  rw [<-e]at this;exact this
 ·cases hv
theorem xi_ok(hC:Cok C Gp)(hE:Enters C.P k){f:Int->Option SV}(hf:∀z v,f z=some v->v.pl=true/\∀E w,Gp w->(-9223372036854775808<=z/\z<=9223372036854775807)->CR C.P k [.int .i64 z] w fun V w'=>V=v.re E/\Hp w [] [] w'):adf C Gp (xi f) k:=by
 intro vs H v H' hv w0 E w hg inv hok;unfold xi at hv;split at hv
 ·rename_i n;obtain⟨u,h1,hv⟩:=aaa hv;cases hv
  obtain⟨h2,h3⟩:=hf _ _ h1;refine ext_plain hC hE h2 (fun E w hw=> ?_) hg inv;have hlt:n%km .i64<18446744073709551616:=Nat.mod_lt _ (by decide);have hb: -9223372036854775808<=ures .i64 (n%km .i64)/\ures .i64 (n%km .i64)<=9223372036854775807:=by
   generalize n%km .i64=z at hlt⊢;rw [ures_eq];have e1:kh .i64=9223372036854775808:=rfl;have e2:km .i64=18446744073709551616:=rfl;rw [e2,e1];split
   ·omega
   ·constructor
    ·exact Int.le_trans (by decide) (Int.natCast_nonneg z)
    ·have:z<=9223372036854775807:=by omega
     exact Int.ofNat_le.2 this
  have:=h3 E w hw hb
  have e:(SV.c (.i .i64 n)).re E=.int .i64 (ures .i64 (n%km .i64)):=by
   show Value.int .i64 (IntKind.i64.wrap n)=_;rw [afy]
  rw [show List.map (SV.re E) [SV.c (.i .i64 n)]=[(SV.c (.i .i64 n)).re E]from rfl,e];exact this
 ·cases hv
theorem row_call(inv:Inv w0 E H w){α:Type}{f:α->List Value}{e sz cap:Nat}{o:Option Nat}{a:Option Addr}{l:List α}{w':World}{xs:List SC}(hp:Hp w [] [rwt f e sz o a cap l] w')(hne:l≠[])(hx:xs.map (SC.re E)=l.flatMap f)
  (hok:∀x∈xs,x.ok H.nx) (hl:xs.length=l.length*sz):∃E',Ag H.nx E E'/\Inv w0 E' (H.add (.cl e (.rw sz l.length) xs)) w'/\Value.slice a l.length cap=(SV.c (.sl H.nx 0 l.length (.r 0))).re E':=by
 rcases(hp.res _ zat).1 with⟨_,h,_,_⟩|⟨g,cur,ho,ha,hob,h1,h2,h3,h4⟩
 ·exact absurd h hne
 ·subst ha;have ho':o=some g:=ho;subst ho';refine⟨eat E H.nx (g,cap),aeg _ _ _, ?_, ?_⟩
  ·refine inv.add (aeg _ _ _) (okUp hok) ?_;refine hp_weak (k:=0) (inv.hp.callL hp) rfl ?_ ?_
   ·simp only [resOf,cres,abf];rfl
   ·show(resOf (eat E H.nx (g,cap)) H.nx (.cl e (.rw sz l.length) xs)).holds w'
    unfold Res.holds;simp only [resOf,cres,abf];rw [scs_ext (aeg E H.nx _) hok,hx];have hxl:(l.flatMap f).length=l.length*sz:=by rw [<-hx,zaq,hl]
    have hle:l.length*sz<=cap*sz:=zao _ h1;refine⟨cur,e,(0,0),hob,.inr rfl,by rw [hxl,h3];exact hle,by rw [hxl];exact h4,hxl,h1,h2,h3,rfl⟩
  ·simp only [SV.re,SC.re,abf,Cp.re,Nat.sub_zero]
theorem str_scs(E:En)(r:List Str):(r.map fun a=>SC.s (aey a) (enc a)).map (SC.re E)=r.flatMap eS:=by
 induction r with
 |nil=>rfl
 |cons a r ih=>
  rw [zav,zav,ih,zaB];show str (dec (aey a) (enc a))::_=[str a]++_;rw [aaz,dec_enc];rfl
theorem xsplit_ok(hC:Cok C Gp)(hE:Enters C.P k){et:Nat}(hf:∀s c w,Gp w->s.length<=1000000000->CR C.P k [str s,str [c]] w fun v w'=>∃o a cap,v=.slice a (spl c s).length cap/\Hp w [] [rwt eS et 1 o a cap (spl c s)] w'):adf C Gp (xsplit et) k:=by
 intro vs H v H' hv w0 E w hg inv hok;unfold xsplit at hv;split at hv
 ·rename_i l x m y;obtain⟨h1,hv1⟩:=aac hv;obtain⟨h2,hv2⟩:=aac hv1;clear hv hv1;rw [aah]at h1;have h1:m=1:=h1;subst h1;rw [aae]at h2;unfold splR at hv2;generalize hr:spl (zaD y) (dec l x)=r at hv2;rw [aat]at hv2;split at hv2
  ·cases hv2
  ·rename_i hne;cases hv2
   have hne':r≠[]:=fun e=>hne (by rw [e];rfl)
   refine⟨hE, ?_⟩
   have e:[SV.c (.s l x),SV.c (.s 1 y)].map (SV.re E)=[str (dec l x),str [zaD y]]:=by
    show [str (dec l x),str (dec 1 y)]=_
    have:dec 1 y=[zaD y]:=by
     simp only [dec];congr 1
     apply UInt8.toNat_inj.1
     simp [UInt8.toNat_ofNat']
    rw [this]
   rw [e];refine CR.mono (hf (dec l x) (zaD y) w (hC.gp hg inv.hp) (by rw [abk];exact h2)) ?_;rintro V w' ⟨o,a,cap,rfl,hp⟩
   rw [hr]at hp⊢;have hlen:(r.map fun a=>SC.s (aey a) (enc a)).length=r.length*1:=by simp
   obtain⟨E',g1,g2,g3⟩:=row_call inv hp hne' (str_scs E r) (fun x hx=>by obtain⟨a,_,rfl⟩:=List.mem_map.1 hx;trivial) hlen;refine⟨E',g1,Nat.le_succ _, ?_, ?_, ?_⟩
   ·rw [aaz];exact g2
   ·show H.nx<H.nx+1;omega
   ·rw [aaz];exact g3
 ·cases hv
theorem cst_ok(E:En):∀{xs:List SC} {l:List Str},cstOf xs=some l->xs.map (SC.re E)=l.flatMap eS
 |[],l,h=>by
  have e:[]=l:=Option.some.inj h;subst e;rfl
 |x::xs,l,h=>by
  obtain⟨q,h1,h⟩:=aaa h;obtain⟨r,h2,h⟩:=aaa h;cases h
  rw [asS_ok h1,zav,cst_ok E (show cstOf xs=some r from h2)];rfl
theorem flat_len:∀l:List Str,(l.flatMap eS).length=l.length
 |[]=>rfl
 |a::l=>by rw [zaB,zak,flat_len l];simp [eS];omega
theorem hcut_rd(inv:Inv w0 E H w){i base n:Nat}{xs:List SC}(h:hcut H i base n=some xs):Rd w (some ⟨(E i).1,base,none⟩) (xs.map (SC.re E))/\xs.length=n:=by
 obtain⟨ys,h1,h⟩:=aaa h;obtain⟨h2,h⟩:=aac h;cases h
 rw [aae,aaz]at h2;rw [aev,ldrop_eq];obtain⟨t,md,hb⟩:=cellsOf_ok h1;refine⟨fun j v hj=>⟨_,rfl, ?_⟩, ?_⟩
 ·rw [aba];rw [List.getElem?_map]at hj;obtain⟨x,hx,rfl⟩:=Option.map_eq_some_iff.1 hj;rw [List.getElem?_take]at hx;split at hx
  ·rw [List.getElem?_drop]at hx;exact inv.cell hb hx
  ·cases hx
 ·have h2:base+n<=ys.length:=h2;simp;omega
theorem xjoin_ok(hC:Cok C Gp)(hE:Enters C.P k) (hf:∀(t:Str) (w:World) (a:Option Addr) (n cap:Nat) (xs:List Str),n=xs.length->Rd w a (xs.flatMap eS)->n<=cap->xs.length<=1000000000/\(Lib.join xs t).length<=100000000000->
  CR C.P k [.slice a n cap,str t] w fun v w'=>v=str (Lib.join xs t)/\Hp w [] [] w'):adf C Gp xjoin k:=by
 intro vs H v H' hv w0 E w hg inv hok;unfold xjoin at hv;split at hv
 ·rename_i i base n c m y;obtain⟨h1,hv⟩:=aac hv;obtain⟨xs,h2,hv⟩:=aaa hv;obtain⟨l,h3,hv⟩:=aaa hv;obtain⟨h4,hv⟩:=aac hv;obtain⟨h5,hv⟩:=aac hv;obtain⟨u,h6,hv⟩:=aaa hv;cases hv
  rw [aae,aaz]at h4 h5;refine⟨hE, ?_⟩
  obtain⟨r1,r2⟩:=hcut_rd inv h2;have e1:=cst_ok E h3;rw [e1]at r1;have e2:n=l.length:=by
   have:=congrArg List.length e1
   rw [zaq,r2]at this;rw [this,flat_len]
  have hcap:n<=c.re E i:=by
   cases c with
   |k cc=>have h':zah n cc=true:=h1;rw [aae]at h';exact h'
   |r off=>
    have hsd:Sd ⟨C.P,fun _=>none,C.X,C.pure,C.V⟩ ⟨0,none⟩ ⟨.e,H,none⟩ ⟨0,[],none⟩ w0 E w:=⟨rfl,inv,fun t v h=>(by rw [Tr.get_e]at h;cases h),fun g cs h=>(by cases h)⟩
    have:=room_ok hsd (show room ⟨.e,H,none⟩ i (off+n)=true from h1)
    show n<=(E i).2-off;omega
  refine CR.mono (hf (dec m y) w (some ⟨(E i).1,base,none⟩) n (c.re E i) l e2 r1 hcap ⟨h4,h5⟩) ?_;rintro V w' ⟨rfl,hp'⟩
  exact⟨E,Ag.refl _ _,zab _,⟨inv.hp.call hp',inv.lt,inv.ok⟩,(afv h6 E _).2,(afv h6 E 0).1.symm⟩
 ·rename_i m y;obtain⟨u,h6,hv⟩:=aaa hv;cases hv
  refine⟨hE, ?_⟩
  refine CR.mono (hf (dec m y) w none 0 0 [] rfl (fun j v h=>by simp at h) (zab _) ⟨by simp,by simp [Lib.join]⟩) ?_;rintro V w' ⟨rfl,hp'⟩
  exact⟨E,Ag.refl _ _,zab _,⟨inv.hp.call hp',inv.lt,inv.ok⟩,(afv h6 E _).2,(afv h6 E 0).1.symm⟩
 ·cases hv
theorem capOk_re(inv:Inv w0 E H w){i n:Nat}{c:Cp}(h1:capOk ⟨.e,H,none⟩ i n c=true)(P:Program)(X:Nat->Option (List SV->Hs->Option (SV×Hs)))(pu:Nat->Bool):n<=c.re E i:=by
 cases c with
 |k cc=>have h':zah n cc=true:=h1;rw [aae]at h';exact h'
 |r off=>
  have hsd:Sd ⟨P,fun _=>none,X,pu,pu⟩ ⟨0,none⟩ ⟨.e,H,none⟩ ⟨0,[],none⟩ w0 E w:=⟨rfl,inv,fun t v h=>(by rw [Tr.get_e]at h;cases h),fun g cs h=>(by cases h)⟩
  have:=room_ok hsd (show room ⟨.e,H,none⟩ i (off+n)=true from h1)
  show n<=(E i).2-off;omega
theorem xbix_ok(hC:Cok C Gp)(hE:Enters C.P k) (hf:∀(a1 a2:Addr) (n c1 m c2:Nat) (s t:Str) (w:World),s.length=n->t.length=m->Rd w (some a1) (s.map bt)->Rd w (some a2) (t.map bt)->n<=c1->n<=1000000000->m<=1000000000->Gp w->
  CR C.P k [.slice (some a1) n c1,.slice (some a2) m c2] w fun v w'=>v=.int .i64 (Lib.index s t)/\Hp w [] [] w')
  (hf0:∀(a:Option Addr) (m c:Nat) (w:World),2<=m->m<=1000000000->CR C.P k [.slice none 0 0,.slice a m c] w fun v w'=>v=.int .i64 (-1)/\Hp w [] [] w'):adf C Gp xbix k:=by
 intro vs H v H' hv w0 E w hg inv hok;unfold xbix at hv;split at hv
 ·rename_i i base n c j base' m c';obtain⟨h1,hv⟩:=aac hv;obtain⟨xs,h2,hv⟩:=aaa hv;obtain⟨p,h3,hv⟩:=aaa hv;obtain⟨ys,h4,hv⟩:=aaa hv;obtain⟨q,h5,hv⟩:=aaa hv;obtain⟨h6,hv⟩:=aac hv;obtain⟨h7,hv⟩:=aac hv;obtain⟨u,h8,hv⟩:=aaa hv;cases hv
  rw [aae]at h6 h7;refine⟨hE, ?_⟩
  obtain⟨r1,r2⟩:=hcut_rd inv h2;obtain⟨r3,r4⟩:=hcut_rd inv h4;rw [encC_ok h3 E,r2]at r1;rw [encC_ok h5 E,r4]at r3;have hcap:=capOk_re inv h1 C.P C.X C.pure;refine CR.mono (hf ⟨(E i).1,base,none⟩ ⟨(E j).1,base',none⟩ n (c.re E i) m (c'.re E j) (dec n p) (dec m q) w (abk _ _) (abk _ _) r1 r3 hcap h6 h7 (hC.gp hg inv.hp)) ?_;rintro V w' ⟨rfl,hp'⟩
  exact⟨E,Ag.refl _ _,zab _,⟨inv.hp.call hp',inv.lt,inv.ok⟩,(afv h8 E _).2,(afv h8 E 0).1.symm⟩
 ·rename_i j base' m c';obtain⟨h6,hv⟩:=aac hv;obtain⟨h7,hv⟩:=aac hv;obtain⟨u,h8,hv⟩:=aaa hv;cases hv
  rw [aae]at h6 h7;refine⟨hE, ?_⟩
  refine CR.mono (hf0 (some ⟨(E j).1,base',none⟩) m (c'.re E j) w h6 h7) ?_;rintro V w' ⟨rfl,hp'⟩
  exact⟨E,Ag.refl _ _,zab _,⟨inv.hp.call hp',inv.lt,inv.ok⟩,(afv h8 E _).2,(afv h8 E 0).1.symm⟩
 ·cases hv
theorem xcc_ok(hC:Cok C Gp)(hE:Enters C.P k){t:Nat} (hf:∀(b:Nat) (z:Bool) (s:Value) (w:World),Hp w (aeu [blk b [Value.pointer (bif z then some ⟨b,0,none⟩else none),s] t]) [blk b [Value.pointer (bif z then some ⟨b,0,none⟩else none),s] t] w->
  CR C.P k [Value.pointer (some ⟨b,0,none⟩)] w fun v w'=>v=.tuple #[]/\Hp w (aeu [blk b [Value.pointer (bif z then some ⟨b,0,none⟩else none),s] t]) [blk b [Value.pointer (some ⟨b,0,none⟩),s] t] w'):adf C Gp (xcc t) k:=by
 intro vs H v H' hv w0 E w hg inv hok;unfold xcc at hv;split at hv
 ·rename_i i o;obtain⟨h1,hv1⟩:=aac hv;obtain⟨b,h2,hv2⟩:=aaa hv1;obtain⟨q,h3,hv3⟩:=aaa hv2;obtain⟨h4,hv4⟩:=aac hv3;obtain⟨h5,hv5⟩:=aac hv4;clear hv hv1 hv2 hv3 hv4;obtain⟨t',md,xs⟩:=q;rw [hbC_ok h3]at h2;rw [aah]at h1 h4;have h1:o=0:=h1;have h4:t'=t:=h4;subst h1;subst h4;cases md with
  |rw sz mm=>cases h5
  |bw=>cases h5
  |fb=>cases h5
  |ex=>
   split at hv5
   ·rename_i a s hxs;have hxs:xs=[a,s]:=hxs;subst hxs;obtain⟨h6,h7⟩:=aac (show bi (zae a.isPt (fun p=>bi (zaf p.1 i) (zaf p.2 0) false) a.asP) (some (SV.t [],H.upd i (.cl t' .ex [.p i 0,s]))) none=some (v,H')from hv5);cases h7
    have h2:H.t.get i=some (.cl t' .ex [a,s]):=h2;have hz:∃z:Bool,a.re E=Value.pointer (bif z then some ⟨(E i).1,0,none⟩else none):=by
     cases a<;>first|exact⟨false,rfl⟩|cases h6|skip
     obtain⟨g1,g2⟩:=bb2 h6;rw [aah]at g1 g2;have g1:_=i:=g1;have g2:_=0:=g2;subst g1;subst g2;exact⟨true,rfl⟩
    obtain⟨z,hz⟩:=hz;obtain⟨cur,tt,fz,c1,c2,c3,c4,c5⟩:=inv.cells h2;have ht:tt=t':=by
     rcases c2 with h|h
     ·cases h
     ·exact h
    subst ht;obtain⟨c6,c7⟩:=c5;subst c7;have hcur:cur=[a.re E,s.re E].toArray:=by
     apply Array.toList_inj.1
     have c6':cur.size=2:=c6
     have:=c4
     rw [zaH (by simp [c6'])]at this;rw [this];rfl
    rw [hcur,hz]at c1;have hst:=Hp.start1 c1;refine⟨hE,CR.mono (hf (E i).1 z (s.re E) w hst) ?_⟩
    rintro V w' ⟨rfl,hp2⟩
    have hi:=inv.lt i _ h2;have hp0:=inv.hp.front i _ (inv.at h2);have hp1:Hp w0 [] ([blk (E i).1 [Value.pointer (bif z then some ⟨(E i).1,0,none⟩else none),s.re E] tt]++(acw E H).eraseIdx i) w:=
     hp_weak (k:=0) (r':=blk (E i).1 [Value.pointer (bif z then some ⟨(E i).1,0,none⟩else none),s.re E] tt) hp0 rfl rfl (by show w.heap[(E i).1]? =_;exact c1)
    have hp3:=hp1.callK hp2;have hb3:w'.heap[(E i).1]? =some (.cells [Value.pointer (some ⟨(E i).1,0,none⟩),s.re E].toArray tt (0,0)):=(hp3.res _ zat).1;have hp4:Hp w0 [] (resOf E i (.cl tt .ex [.p i 0,s])::(acw E H).eraseIdx i) w':=
     hp_weak (k:=0) (r':=resOf E i (.cl tt .ex [.p i 0,s])) hp3 rfl rfl ⟨_,tt,(0,0),hb3,.inr rfl,by simp,by simp [SC.re],rfl,rfl⟩
    refine⟨E,Ag.refl _ _,zab _,inv.upd hi ?_ (Hp.perm hp4 (set_perm _ _ _ (by rw [aef];exact hi)).symm),(fun x hx=>by cases hx),rfl⟩
    intro x hx;have hok2:=inv.ok i _ h2;rcases List.mem_cons.1 hx with rfl|hx
    ·exact hi
    ·exact hok2 x (zau _ hx)
   ·cases hv5
 ·cases hv
end
noncomputable def isT(r:Option (SV×Hs)):Bool:=zae false (fun p=>SV.rec (fun x=>zae false (fun b=>b) x.asB) (fun _=>false) (fun _=>false) false p.1) r
theorem isT_ok{r:Option (SV×Hs)}(h:isT r=true):∃H',r=some (.c (.b true),H'):=by
 cases r with
 |none=>cases h
 |some p=>
  obtain⟨v,H⟩:=p;cases v with
  |c x=>
   have h':(zae false (fun b=>b) x.asB:Bool)=true:=h;cases hb:x.asB with
   |none=>rw [hb]at h';cases h'
   |some b=>
    rw [hb]at h';have h':b=true:=h';subst h';rw [asB_ok hb];exact⟨H,rfl⟩
  |_=>cases h
end Go.Ce
set_option maxRecDepth 20000
set_option maxHeartbeats 1000000
namespace Go.Wk
open Go.Px
open Int renaming toNat -> zap
open List renaming replicate -> zad
def adj(fu:Nat)(m_0:(Str×Str×Int×Str×(List (Str×Str))×(List UInt8))):Option (Str×Str×Int×Str×(List (Str×Str))×(List UInt8)):=
 (@gd _ (0<=(m_0.2.2.2.2.1.length:Int)/\(32:Int)*(m_0.2.2.2.2.1.length:Int)<=281474976710656) (dMk 32 (m_0.2.2.2.2.1.length:Int))<|(gd ((0+m_0.2.2.2.2.2.length)*1<=140737488355328)<|some (m_0.1,m_0.2.1,m_0.2.2.1,m_0.2.2.2.1,cpy (zad (zap (m_0.2.2.2.2.1.length:Int)) (([]:Str),([]:Str))) m_0.2.2.2.2.1,m_0.2.2.2.2.2)))
def acn(fu:Nat)(a0:UInt8):Option Bool:=
 (((((if(97:UInt8)<=a0 then some (decide (a0<=(122:UInt8)))else some false)).bind fun(a1:Bool)=>(bif a1 then(bif a1 then some (.inr true)else some (.inl ()))else(((if(65:UInt8)<=a0 then some (decide (a0<=(90:UInt8)))else some false)).bind fun(a2:Bool)=>(bif a2 then(bif a2 then some (.inr true)else some (.inl ()))else(if(48:UInt8)<=a0 then(if a0<=(57:UInt8)then some (.inr true)else some (.inl ()))else some (.inl ()))))))).bind fun(a3:(Unit⊕Bool))=>Sum.elim (fun(a4:Unit)=>(if a0=(45:UInt8)then(if a0=(45:UInt8)then some true else some false)else(if a0=(46:UInt8)then(if a0=(46:UInt8)then some true else some false)else(if a0=(33:UInt8)then(if a0=(33:UInt8)then some true else some false)else(if a0=(37:UInt8)then(if a0=(37:UInt8)then some true else some false)else(if a0=(42:UInt8)then(if a0=(42:UInt8)then some true else some false)else(if a0=(95:UInt8)then(if a0=(95:UInt8)then some true else some false)else(if a0=(43:UInt8)then(if a0=(43:UInt8)then some true else some false)else(if a0=(39:UInt8)then(if a0=(39:UInt8)then some true else some false)else(if a0=(126:UInt8)then(if a0=(126:UInt8)then some true else some false)else(if a0=(96:UInt8)then some true else some false))))))))))) (fun q=>some q) a3)
def aau(fu:Nat)(a1:Str)(a2:Int->Option Int)(a0:Int):Option Int:=
 (((if a0<(a1.length:Int)then(gd (0<=a0/\a0<(a1.length:Int))<|((acn fu (at_ a1 a0)).bind fun(a3:Bool)=>some a3))else some false)).bind fun(a4:Bool)=>(bif a4 then(gd (ok64 (a0+(1:Int)))<|(a2 (a0+(1:Int))))else some a0))
def aaw(fu:Nat)(a1:Str):Nat->Int->Option Int:=fun k_ a0=>loopF (fun(g:Int->Option Int) v=>aau fu a1 (fun a0=>g a0) v) k_ a0
theorem abn{fu:Nat}{a0:Str}{k_:Nat}{a1:Int}:aaw fu a0 (k_+1) a1=aau fu a0 (aaw fu a0 k_) a1:=rfl
def abd(fu:Nat)(a0:Str)(a1:Int):Option Int:=
 (((aaw fu a0 fu (min (max a1 (0:Int)) (a0.length:Int)))).bind fun(a2:Int)=>some a2)
def ady(fu:Nat)(a0:Str)(a1:Int):Option Int:=
 ((abd fu a0 a1).bind fun(y1:Int)=>some y1)
def aek(fu:Nat)(a0:Str):Option Bool:=
 (((if a0=([]:Str)then some false else((ady fu a0 (0:Int)).bind fun(a1:Int)=>some (decide (a1=(a0.length:Int)))))).bind fun(a2:Bool)=>some a2)
def abp(fu:Nat)(a0:UInt8):Option UInt8:=
 (((if(65:UInt8)<=a0 then some (decide (a0<=(90:UInt8)))else some false)).bind fun(v5:Bool)=>(bif v5 then some (a0+(32:UInt8))else some a0))
def ada(fu:Nat)(a0:UInt8):Option Str:=
 (if a0=(98:UInt8)then some ([82,101,102,101,114,114,101,100,45,66,121]:Str)else(if a0=(99:UInt8)then some ([67,111,110,116,101,110,116,45,84,121,112,101]:Str)else(if a0=(101:UInt8)then some ([67,111,110,116,101,110,116,45,69,110,99,111,100,105,110,103]:Str)else(if a0=(102:UInt8)then some ([70,114,111,109]:Str)else(if a0=(105:UInt8)then some ([67,97,108,108,45,73,68]:Str)else(if a0=(107:UInt8)then some ([83,117,112,112,111,114,116,101,100]:Str)else(if a0=(108:UInt8)then some ([67,111,110,116,101,110,116,45,76,101,110,103,116,104]:Str)else(if a0=(109:UInt8)then some ([67,111,110,116,97,99,116]:Str)else(if a0=(111:UInt8)then some ([69,118,101,110,116]:Str)else(if a0=(114:UInt8)then some ([82,101,102,101,114,45,84,111]:Str)else(if a0=(115:UInt8)then some ([83,117,98,106,101,99,116]:Str)else(if a0=(116:UInt8)then some ([84,111]:Str)else(if a0=(117:UInt8)then some ([65,108,108,111,119,45,69,118,101,110,116,115]:Str)else(if a0=(118:UInt8)then some ([86,105,97]:Str)else(if a0=(120:UInt8)then some ([83,101,115,115,105,111,110,45,69,120,112,105,114,101,115]:Str)else some ([]:Str))))))))))))))))
def aan(fu:Nat)(a2:Str)(a3:Str->Int->Option Str)(a1:Str)(a0:Int):Option Str:=
 (if a0<(a2.length:Int)then(gd (0<=a0/\a0<(a1.length:Int))<|(gd (0<=a0/\a0<(a1.length:Int))<|((abp fu (at_ a1 a0)).bind fun(a4:UInt8)=>(gd (0<=a0/\a0<(a1.length:Int))<|(gd (0<=a0/\a0<(a1.length:Int))<|(gd (ok64 (a0+(1:Int)))<|(a3 (List.set a1 (zap a0) a4) (a0+(1:Int)))))))))else some a1)
def aap(fu:Nat)(a2:Str):Nat->Str->Int->Option Str:=fun k_ a0 a1=>loopF (fun(g:(Str×Int)->Option Str) v=>aan fu a2 (fun a0 a1=>g (a0,a1)) v.1 v.2) k_ (a0,a1)
theorem abg{fu:Nat}{a0:Str}{k_:Nat}{a1:Str}{a2:Int}:aap fu a0 (k_+1) a1 a2=aan fu a0 (aap fu a0 k_) a1 a2:=rfl
def aam(fu:Nat)(a0:Str):Option Str:=
 (((aap fu a0 fu a0 (0:Int))).bind fun(a1:Str)=>some a1)
def ael(fu:Nat)(a0:UInt8):Option UInt8:=
 (((if(97:UInt8)<=a0 then some (decide (a0<=(122:UInt8)))else some false)).bind fun(v5:Bool)=>(bif v5 then some (a0-(32:UInt8))else some a0))
def adk(fu:Nat)(a0:UInt8)(a1:Bool):Option (UInt8×Bool):=
 (bif a1 then((ael fu a0).bind fun(y2:UInt8)=>some (y2,(decide (y2=(45:UInt8)))))else((abp fu a0).bind fun(y9:UInt8)=>some (y9,(decide (y9=(45:UInt8))))))
def aaq(fu:Nat)(a4:Str)(a5:Str->Int->Bool->Option (Str×Bool))(a1:Str)(a0:Int)(a2:Bool):Option (Str×Bool):=
 (if a0<(a4.length:Int)then(gd (0<=a0/\a0<(a1.length:Int))<|(gd (0<=a0/\a0<(a1.length:Int))<|((adk fu (at_ a1 a0) a2).bind fun(a3:(UInt8×Bool))=>(gd (0<=a0/\a0<(a1.length:Int))<|(gd (0<=a0/\a0<(a1.length:Int))<|(gd (ok64 (a0+(1:Int)))<|(a5 (List.set a1 (zap a0) a3.1) (a0+(1:Int)) a3.2)))))))else some (a1,a2))
def aas(fu:Nat)(a3:Str):Nat->Str->Int->Bool->Option (Str×Bool):=fun k_ a0 a1 a2=>loopF (fun(g:(Str×Int×Bool)->Option (Str×Bool)) v=>aaq fu a3 (fun a0 a1 a2=>g (a0,a1,a2)) v.1 v.2.1 v.2.2) k_ (a0,a1,a2)
theorem abl{fu:Nat}{a0:Str}{k_:Nat}{a1:Str}{a2:Int}{a3:Bool}:aas fu a0 (k_+1) a1 a2 a3=aaq fu a0 (aas fu a0 k_) a1 a2 a3:=rfl
def aar(fu:Nat)(a0:Str)(a2:Bool):Option (Str×Bool):=
 (((aas fu a0 fu a0 (0:Int) a2)).bind fun(a1:(Str×Bool))=>some (a1.1,a1.2))
def aea(fu:Nat)(a1:Str)(a2:Int->Option (Unit⊕(Str×UInt8)))(a0:Int):Option (Unit⊕(Str×UInt8)):=
 (if a0<(7:Int)then(gd (0<=a0/\a0<(acq.length:Int))<|((aam fu (el acq a0)).bind fun(a3:Str)=>(if a3=a1 then some (.inr (el acq a0,(0:UInt8)))else(gd (ok64 (a0+(1:Int)))<|(a2 (a0+(1:Int)))))))else some (.inl ()))
def abq(fu:Nat)(a1:Str):Nat->Int->Option (Unit⊕(Str×UInt8)):=fun k_ a0=>loopF (fun(g:Int->Option (Unit⊕(Str×UInt8))) v=>aea fu a1 (fun a0=>g a0) v) k_ a0
theorem L_header_Canon_lp0_s{fu:Nat}{a0:Str}{k_:Nat}{a1:Int}:abq fu a0 (k_+1) a1=aea fu a0 (abq fu a0 k_) a1:=rfl
def acs(fu:Nat)(a0:Str):Option (Str×UInt8):=
 ((((aek fu a0).bind fun(a2:Bool)=>(bif (!a2)then some true else some (decide ((64:Int)<(a0.length:Int)))))).bind fun(a3:Bool)=>(bif a3 then some (([]:Str),(5:UInt8))else(((if(a0.length:Int)=(1:Int)then(gd (0<=(0:Int)/\(0:Int)<(a0.length:Int))<|((abp fu (at_ a0 (0:Int))).bind fun(a4:UInt8)=>((ada fu a4).bind fun(a1:Str)=>(if a1=([]:Str)then some (.inl ())else some (.inr (a1,(0:UInt8)))))))else some (.inl ()))).bind fun(a5:(Unit⊕(Str×UInt8)))=>Sum.elim (fun(a9:Unit)=>((aam fu a0).bind fun(a6:Str)=>(((abq fu a6 fu (0:Int))).bind fun(a7:(Unit⊕(Str×UInt8)))=>Sum.elim (fun(b0:Unit)=>((aar fu a0 true).bind fun(a8:(Str×Bool))=>some (a8.1,(0:UInt8)))) (fun q=>some q) a7))) (fun q=>some q) a5)))
def acz(fu:Nat)(a0:Str):Option (UInt8×Str):=
 ((acs fu a0).bind fun(y1:(Str×UInt8))=>some (y1.2,y1.1))
def acg(fu:Nat)(a0:(Str×Str))(a1:UInt8)(a2:Str):Option Bool:=
 ((acs fu a0.1).bind fun(y4:(Str×UInt8))=>(((if a1=(0:UInt8)then(if y4.2=(0:UInt8)then some (decide (y4.1=a2))else some false)else some false)).bind fun(a3:Bool)=>some a3))
def aaj(fu:Nat)(a1:List (Str×Str))(a2:UInt8)(a3:Str)(a4:Int->Option (Unit⊕Int))(a0:Int):Option (Unit⊕Int):=
 (if a0<(a1.length:Int)then(gd (0<=a0/\a0<(a1.length:Int))<|(gd (0<=a0/\a0<(a1.length:Int))<|((acg fu (el a1 a0) a2 a3).bind fun(a5:Bool)=>(bif a5 then some (.inr a0)else(gd (ok64 (a0+(1:Int)))<|(a4 (a0+(1:Int))))))))else some (.inl ()))
def aaf(fu:Nat)(a1:List (Str×Str))(a2:UInt8)(a3:Str):Nat->Int->Option (Unit⊕Int):=fun k_ a0=>loopF (fun(g:Int->Option (Unit⊕Int)) v=>aaj fu a1 a2 a3 (fun a0=>g a0) v) k_ a0
theorem aax{fu:Nat}{a0:List (Str×Str)}{a1:UInt8}{a2:Str}{k_:Nat}{a3:Int}:aaf fu a0 a1 a2 (k_+1) a3=aaj fu a0 a1 a2 (aaf fu a0 a1 a2 k_) a3:=rfl
def aag(fu:Nat)(a0:List (Str×Str))(a1:UInt8)(a2:Str):Option Int:=
 (((aaf fu a0 a1 a2 fu (0:Int))).bind fun(a3:(Unit⊕Int))=>Sum.elim (fun(a4:Unit)=>some (-1:Int)) (fun q=>some q) a3)
def aai(fu:Nat)(a4:UInt8)(a5:Str)(a3:(List (Str×Str))->Int->Int->Option ((List (Str×Str))×Int))(a1:List (Str×Str))(a2:Int)(a0:Int):Option ((List (Str×Str))×Int):=
 (if a0<(a1.length:Int)then(gd (0<=a0/\a0<(a1.length:Int))<|(gd (0<=a0/\a0<(a1.length:Int))<|((acg fu (el a1 a0) a4 a5).bind fun(a6:Bool)=>(bif (!a6)then(gd (0<=a2/\a2<(a1.length:Int))<|(gd (0<=a2/\a2<(a1.length:Int))<|(gd (ok64 (a2+(1:Int)))<|(gd (ok64 (a0+(1:Int)))<|(a3 (List.set a1 (zap a2) (el a1 a0)) (a2+(1:Int)) (a0+(1:Int)))))))else(gd (ok64 (a0+(1:Int)))<|(a3 a1 a2 (a0+(1:Int))))))))else some (a1,a2))
def aad(fu:Nat)(a3:UInt8)(a4:Str):Nat->(List (Str×Str))->Int->Int->Option ((List (Str×Str))×Int):=fun k_ a0 a1 a2=>loopF (fun(g:((List (Str×Str))×Int×Int)->Option ((List (Str×Str))×Int)) v=>aai fu a3 a4 (fun a0 a1 a2=>g (a0,a1,a2)) v.1 v.2.1 v.2.2) k_ (a0,a1,a2)
theorem aav{fu:Nat}{a0:UInt8}{a1:Str}{k_:Nat}{a2:List (Str×Str)}{a3:Int}{a4:Int}:aad fu a0 a1 (k_+1) a2 a3 a4=aai fu a0 a1 (aad fu a0 a1 k_) a2 a3 a4:=rfl
def aal(fu:Nat)(a1:List (Str×Str))(a2:UInt8)(a3:Str):Option (List (Str×Str)):=
 ((aag fu a1 a2 a3).bind fun(y1:Int)=>(if y1=(-1:Int)then some a1 else(((gd (ok64 (y1+(1:Int)))<|(aad fu a2 a3 fu a1 y1 (y1+(1:Int))))).bind fun(a0:((List (Str×Str))×Int))=>(gd (0<=a0.2/\a0.2<=(a0.1.length:Int))<|(gd (0<=a0.2/\a0.2<=((clr a0.1 (zap a0.2) (([]:Str),([]:Str))).length:Int))<|some (List.take (zap a0.2) (clr a0.1 (zap a0.2) (([]:Str),([]:Str)))))))))
def adw(fu:Nat)(m_0:(Str×Str×Int×Str×(List (Str×Str))×(List UInt8)))(a1:Str):Option (Str×Str×Int×Str×(List (Str×Str))×(List UInt8)):=
 ((adj fu m_0).bind fun(y7:(Str×Str×Int×Str×(List (Str×Str))×(List UInt8)))=>((acz fu a1).bind fun(a0:(UInt8×Str))=>((aal fu y7.2.2.2.2.1 a0.1 a0.2).bind fun(a2:List (Str×Str))=>some (y7.1,y7.2.1,y7.2.2.1,y7.2.2.2.1,a2,y7.2.2.2.2.2))))
def acm(fu:Nat)(m_0:(Str×Str×Int×Str×(List (Str×Str))×(List UInt8)))(a1:Str):Option (Str×Bool):=
 ((acz fu a1).bind fun(y4:(UInt8×Str))=>((aag fu m_0.2.2.2.2.1 y4.1 y4.2).bind fun(a0:Int)=>(if a0<(0:Int)then some (([]:Str),false)else(gd (0<=a0/\a0<(m_0.2.2.2.2.1.length:Int))<|(gd (0<=a0/\a0<(m_0.2.2.2.2.1.length:Int))<|some ((el m_0.2.2.2.2.1 a0).2,true))))))
def adb(fu:Nat)(p_0:((List (Str×Str))×(List UInt8))):Option (Str×LQ):=
 ((acm fu (([]:Str),([]:Str),(0:Int),([]:Str),p_0.1,([]:List UInt8)) ([67,111,110,116,101,110,116,45,84,121,112,101]:Str)).bind fun(y4:(Str×Bool))=>(bif (!y4.2)then some (([116,101,120,116,47,112,108,97,105,110]:Str),([]:LQ))else none))
def abi(fu:Nat)(a1:Str)(a0:Str):Option Bool:=
 (((if(a0.length:Int)<=(a1.length:Int)then(gd (0<=(a0.length:Int)/\(a0.length:Int)<=(a1.length:Int))<|some (decide ((List.take (zap (a0.length:Int)) a1)=a0)))else some false)).bind fun(v6:Bool)=>some v6)
def abx(fu:Nat)(a0:Str)(a1:Str):Option Bool:=
 ((abi fu a0 a1).bind fun(y1:Bool)=>some y1)
def aem(fu:Nat)(a0:PQ):Option Bool:=
 some (decide (a0.1=([98,111,117,110,100,97,114,121]:Str)))
def aay(fu:Nat)(a1:LQ)(a2:Int->Option (Unit⊕Int))(a0:Int):Option (Unit⊕Int):=
 (if a0<(a1.length:Int)then(gd (0<=a0/\a0<(a1.length:Int))<|(gd (0<=a0/\a0<(a1.length:Int))<|((aem fu ((el a1 a0).1,(el a1 a0).2.1,((el a1 a0).2.2))).bind fun(a3:Bool)=>(bif a3 then some (.inr a0)else(gd (ok64 (a0+(1:Int)))<|(a2 (a0+(1:Int))))))))else some (.inl ()))
def aao(fu:Nat)(a1:LQ):Nat->Int->Option (Unit⊕Int):=fun k_ a0=>loopF (fun(g:Int->Option (Unit⊕Int)) v=>aay fu a1 (fun a0=>g a0) v) k_ a0
theorem acr{fu:Nat}{a0:LQ}{k_:Nat}{a1:Int}:aao fu a0 (k_+1) a1=aay fu a0 (aao fu a0 k_) a1:=rfl
def abe(fu:Nat)(a0:LQ):Option Int:=
 (((aao fu a0 fu (0:Int))).bind fun(a1:(Unit⊕Int))=>Sum.elim (fun(a2:Unit)=>some (-1:Int)) (fun q=>some q) a1)
def abz(fu:Nat)(p_0:((List (Str×Str))×(List UInt8))):Option (Str×Bool):=
 ((adb fu p_0).bind fun(y4:(Str×LQ))=>((abx fu y4.1 ([109,117,108,116,105,112,97,114,116,47]:Str)).bind fun(a1:Bool)=>(bif (!a1)then some (([]:Str),false)else((abe fu y4.2).bind fun(a0:Int)=>(if a0<(0:Int)then some (([]:Str),false)else(gd (0<=a0/\a0<(y4.2.length:Int))<|(gd (0<=a0/\a0<(y4.2.length:Int))<|some ((el y4.2 a0).2.1,true))))))))
def aeb(fu:Nat)(a3:Str)(a2:Str->Int->Option Str)(a1:Str)(a0:Int):Option Str:=
 (if a0<(a3.length:Int)then(gd (0<=a0/\a0<(a1.length:Int))<|(gd (0<=a0/\a0<(a1.length:Int))<|(((if(65:UInt8)<=(at_ a1 a0)then some (decide ((at_ a1 a0)<=(90:UInt8)))else some false)).bind fun(a4:Bool)=>(bif a4 then(gd (0<=a0/\a0<(a1.length:Int))<|(gd (0<=a0/\a0<(a1.length:Int))<|(gd (ok64 (a0+(1:Int)))<|(a2 (List.set a1 (zap a0) ((at_ a1 a0)+(32:UInt8))) (a0+(1:Int))))))else(gd (ok64 (a0+(1:Int)))<|(a2 a1 (a0+(1:Int))))))))else some a1)
def adn(fu:Nat)(a2:Str):Nat->Str->Int->Option Str:=fun k_ a0 a1=>loopF (fun(g:(Str×Int)->Option Str) v=>aeb fu a2 (fun a0 a1=>g (a0,a1)) v.1 v.2) k_ (a0,a1)
theorem L_bodies_lower_lp0_s{fu:Nat}{a0:Str}{k_:Nat}{a1:Str}{a2:Int}:adn fu a0 (k_+1) a1 a2=aeb fu a0 (adn fu a0 k_) a1 a2:=rfl
def adx(fu:Nat)(a0:Str):Option Str:=
 (((adn fu a0 fu a0 (0:Int))).bind fun(a1:Str)=>some a1)
def ack(fu:Nat)(a0:(Str×Str)):Option (Str×Bool):=
 ((acs fu a0.1).bind fun(y4:(Str×UInt8))=>(((if y4.2=(0:UInt8)then((abx fu y4.1 ([67,111,110,116,101,110,116,45]:Str)).bind fun(a1:Bool)=>some a1)else some false)).bind fun(a2:Bool)=>some (y4.1,a2)))
def adr(fu:Nat)(p_0:((List (Str×Str))×(List UInt8))):Option ((List (Str×Str))×(List UInt8)):=
 (@gd _ (0<=(p_0.1.length:Int)/\(32:Int)*(p_0.1.length:Int)<=281474976710656) (dMk 32 (p_0.1.length:Int))<|(gd ((0+p_0.2.length)*1<=140737488355328)<|some (cpy (zad (zap (p_0.1.length:Int)) (([]:Str),([]:Str))) p_0.1,p_0.2)))
def adp(fu:Nat)(a0:Option (((List (Str×Str))×(List UInt8))×UInt8)):Option (((List (Str×Str))×(List UInt8))×UInt8):=
 (if(0:Int)<(0:Int)then(gd (0<=(0:Int)/\(0:Int)<(0:Int))<|none)else some ((([]:List (Str×Str)),([]:List UInt8)),(8:UInt8)))
def ade(fu:Nat):Nat->Option (((List (Str×Str))×(List UInt8))×UInt8):=fun k_=>loopF (fun(g:Unit->Option (((List (Str×Str))×(List UInt8))×UInt8)) v=>adp fu (g ())) k_ ()
theorem afk{fu:Nat}{k_:Nat}:ade fu (k_+1)=adp fu (ade fu k_):=rfl
def aco(fu:Nat)(m_0:(Str×Str×Int×Str×(List (Str×Str))×(List UInt8)))(a2:Int->(List (Str×Str))->Option (List (Str×Str)))(a0:Int)(a1:List (Str×Str)):Option (List (Str×Str)):=
 (if a0<(m_0.2.2.2.2.1.length:Int)then(gd (0<=a0/\a0<(m_0.2.2.2.2.1.length:Int))<|(gd (0<=a0/\a0<(m_0.2.2.2.2.1.length:Int))<|((ack fu (el m_0.2.2.2.2.1 a0)).bind fun(a3:(Str×Bool))=>(((bif a3.2 then some (!decide (a3.1=([67,111,110,116,101,110,116,45,76,101,110,103,116,104]:Str)))else some false)).bind fun(a4:Bool)=>(bif a4 then(gd ((a1.length+([el m_0.2.2.2.2.1 a0]:List (Str×Str)).length)*32<=140737488355328)<|(gd (ok64 (a0+(1:Int)))<|(a2 (a0+(1:Int)) (a1++([el m_0.2.2.2.2.1 a0]:List (Str×Str))))))else(gd (ok64 (a0+(1:Int)))<|(a2 (a0+(1:Int)) a1)))))))else some a1)
def ach(fu:Nat)(m_0:(Str×Str×Int×Str×(List (Str×Str))×(List UInt8))):Nat->Int->(List (Str×Str))->Option (List (Str×Str)):=fun k_ a0 a1=>loopF (fun(g:(Int×(List (Str×Str)))->Option (List (Str×Str))) v=>aco fu m_0 (fun a0 a1=>g (a0,a1)) v.1 v.2) k_ (a0,a1)
theorem aec{fu:Nat}{m_0:(Str×Str×Int×Str×(List (Str×Str))×(List UInt8))}{k_:Nat}{a0:Int}{a1:List (Str×Str)}:ach fu m_0 (k_+1) a0 a1=aco fu m_0 (ach fu m_0 k_) a0 a1:=rfl
def ado(fu:Nat)(m_0:(Str×Str×Int×Str×(List (Str×Str))×(List UInt8)))(a1:List (Str×Str))(a2:Str)(a3:Int->Option (((List (Str×Str))×(List UInt8))×UInt8))(a0:Int):Option (((List (Str×Str))×(List UInt8))×UInt8):=
 (if a0<(1:Int)then(gd (0<=a0/\a0<(1:Int))<|((adb fu (a1,m_0.2.2.2.2.2)).bind fun(a4:(Str×LQ))=>(if a4.1=a2 then((adr fu (a1,m_0.2.2.2.2.2)).bind fun(a5:((List (Str×Str))×(List UInt8)))=>some (a5,(0:UInt8)))else((abz fu (a1,m_0.2.2.2.2.2)).bind fun(a6:(Str×Bool))=>(bif (!a6.2)then(gd (ok64 (a0+(1:Int)))<|(a3 (a0+(1:Int))))else none)))))else some ((([]:List (Str×Str)),([]:List UInt8)),(8:UInt8)))
def adc(fu:Nat)(m_0:(Str×Str×Int×Str×(List (Str×Str))×(List UInt8)))(a1:List (Str×Str))(a2:Str):Nat->Int->Option (((List (Str×Str))×(List UInt8))×UInt8):=fun k_ a0=>loopF (fun(g:Int->Option (((List (Str×Str))×(List UInt8))×UInt8)) v=>ado fu m_0 a1 a2 (fun a0=>g a0) v) k_ a0
theorem afj{fu:Nat}{m_0:(Str×Str×Int×Str×(List (Str×Str))×(List UInt8))}{a0:List (Str×Str)}{a1:Str}{k_:Nat}{a2:Int}:adc fu m_0 a0 a1 (k_+1) a2=ado fu m_0 a0 a1 (adc fu m_0 a0 a1 k_) a2:=rfl
def acp(fu:Nat)(m_0:(Str×Str×Int×Str×(List (Str×Str))×(List UInt8)))(a0:Str):Option (((List (Str×Str))×(List UInt8))×UInt8):=
 ((abz fu m_0.2.2.2.2).bind fun(a1:(Str×Bool))=>(bif a1.2 then none else((acm fu m_0 ([67,111,110,116,101,110,116,45,84,121,112,101]:Str)).bind fun(a2:(Str×Bool))=>(((bif (!a2.2)then some (decide ((m_0.2.2.2.2.2.length:Int)=(0:Int)))else some false)).bind fun(a3:Bool)=>(bif a3 then(if(0:UInt8)=(0:UInt8)then((adx fu a0).bind fun(a6:Str)=>(if(3:Int)=(0:Int)then some ((([]:List (Str×Str)),([]:List UInt8)),(8:UInt8))else(ade fu fu)))else some ((([]:List (Str×Str)),([]:List UInt8)),(0:UInt8)))else(gd ((0+m_0.2.2.2.2.2.length)*1<=140737488355328)<|(((ach fu m_0 fu (0:Int) ([]:List (Str×Str)))).bind fun(a4:List (Str×Str))=>(if(0:UInt8)=(0:UInt8)then((adx fu a0).bind fun(a5:Str)=>(if(3:Int)=(0:Int)then some ((([]:List (Str×Str)),([]:List UInt8)),(8:UInt8))else(adc fu m_0 a4 a5 fu (0:Int))))else some ((([]:List (Str×Str)),([]:List UInt8)),(0:UInt8))))))))))
def acy(fu:Nat)(a_0:(Str×Str×Int×Str×(List (Str×Str))×(List UInt8)))(b_3:(Str×Str×Int×Str×(List (Str×Str))×(List UInt8)))(a1:Int->Option (Unit⊕Bool))(a0:Int):Option (Unit⊕Bool):=
 (if a0<(a_0.2.2.2.2.1.length:Int)then(gd (0<=a0/\a0<(a_0.2.2.2.2.1.length:Int))<|(gd (0<=a0/\a0<(a_0.2.2.2.2.1.length:Int))<|(gd (0<=a0/\a0<(b_3.2.2.2.2.1.length:Int))<|(gd (0<=a0/\a0<(b_3.2.2.2.2.1.length:Int))<|(if(el a_0.2.2.2.2.1 a0)=(el b_3.2.2.2.2.1 a0)then(gd (ok64 (a0+(1:Int)))<|(a1 (a0+(1:Int))))else some (.inr false))))))else some (.inl ()))
def acj(fu:Nat)(a_0:(Str×Str×Int×Str×(List (Str×Str))×(List UInt8)))(b_3:(Str×Str×Int×Str×(List (Str×Str))×(List UInt8))):Nat->Int->Option (Unit⊕Bool):=fun k_ a0=>loopF (fun(g:Int->Option (Unit⊕Bool)) v=>acy fu a_0 b_3 (fun a0=>g a0) v) k_ a0
theorem aej{fu:Nat}{a_0:(Str×Str×Int×Str×(List (Str×Str))×(List UInt8))}{b_3:(Str×Str×Int×Str×(List (Str×Str))×(List UInt8))}{k_:Nat}{a0:Int}:acj fu a_0 b_3 (k_+1) a0=acy fu a_0 b_3 (acj fu a_0 b_3 k_) a0:=rfl
def afr(fu:Nat)(a_0:(Str×Str×Int×Str×(List (Str×Str))×(List UInt8)))(b_3:(Str×Str×Int×Str×(List (Str×Str))×(List UInt8))):Option Bool:=
 (((if a_0.1=b_3.1 then(if a_0.2.1=b_3.2.1 then(if a_0.2.2.1=b_3.2.2.1 then(if a_0.2.2.2.1=b_3.2.2.2.1 then(if(a_0.2.2.2.2.1.length:Int)=(b_3.2.2.2.2.1.length:Int)then some (!decide (a_0.2.2.2.2.2=b_3.2.2.2.2.2))else some true)else some true)else some true)else some true)else some true)).bind fun(a0:Bool)=>(bif a0 then some false else(((acj fu a_0 b_3 fu (0:Int))).bind fun(a1:(Unit⊕Bool))=>Sum.elim (fun(a2:Unit)=>some true) (fun q=>some q) a1)))
def adi(fu:Nat)(a_0:((List (Str×Str))×(List UInt8)))(b_3:((List (Str×Str))×(List UInt8))):Option Bool:=
 ((afr fu (([]:Str),([]:Str),(0:Int),([]:Str),a_0.1,a_0.2) (([]:Str),([]:Str),(0:Int),([]:Str),b_3.1,b_3.2)).bind fun(y7:Bool)=>some y7)
def abm(fu:Nat)(y8:(Str×Str×Int×Str×(List (Str×Str))×(List UInt8)))(a2:Int->(List (Str×Str))->Option (List (Str×Str)))(a0:Int)(a1:List (Str×Str)):Option (List (Str×Str)):=
 (if a0<(y8.2.2.2.2.1.length:Int)then(gd (0<=a0/\a0<(y8.2.2.2.2.1.length:Int))<|(gd (0<=a0/\a0<(y8.2.2.2.2.1.length:Int))<|((ack fu (el y8.2.2.2.2.1 a0)).bind fun(a3:(Str×Bool))=>(((bif a3.2 then some (!decide (a3.1=([67,111,110,116,101,110,116,45,76,101,110,103,116,104]:Str)))else some false)).bind fun(a4:Bool)=>(bif a4 then(gd ((a1.length+([el y8.2.2.2.2.1 a0]:List (Str×Str)).length)*32<=140737488355328)<|(gd (ok64 (a0+(1:Int)))<|(a2 (a0+(1:Int)) (a1++([el y8.2.2.2.2.1 a0]:List (Str×Str))))))else(gd (ok64 (a0+(1:Int)))<|(a2 (a0+(1:Int)) a1)))))))else some a1)
def abh(fu:Nat)(y8:(Str×Str×Int×Str×(List (Str×Str))×(List UInt8))):Nat->Int->(List (Str×Str))->Option (List (Str×Str)):=fun k_ a0 a1=>loopF (fun(g:(Int×(List (Str×Str)))->Option (List (Str×Str))) v=>abm fu y8 (fun a0 a1=>g (a0,a1)) v.1 v.2) k_ (a0,a1)
theorem aci{fu:Nat}{y8:(Str×Str×Int×Str×(List (Str×Str))×(List UInt8))}{k_:Nat}{a0:Int}{a1:List (Str×Str)}:abh fu y8 (k_+1) a0 a1=abm fu y8 (abh fu y8 k_) a0 a1:=rfl
def acu(fu:Nat)(m_0:(Str×Str×Int×Str×(List (Str×Str))×(List UInt8))):Option Bool:=
 (if(100:Int)<(m_0.2.2.2.2.1.length:Int)then some true else((adw fu m_0 ([67,111,110,116,101,110,116,45,84,121,112,101]:Str)).bind fun(y8:(Str×Str×Int×Str×(List (Str×Str))×(List UInt8)))=>((abz fu y8.2.2.2.2).bind fun(a1:(Str×Bool))=>(bif a1.2 then none else((acm fu y8 ([67,111,110,116,101,110,116,45,84,121,112,101]:Str)).bind fun(a2:(Str×Bool))=>(((bif (!a2.2)then some (decide ((y8.2.2.2.2.2.length:Int)=(0:Int)))else some false)).bind fun(a3:Bool)=>(bif a3 then((acp fu y8 ([84,69,88,84,47,80,108,97,105,110]:Str)).bind fun(a4:(((List (Str×Str))×(List UInt8))×UInt8))=>(if(m_0.2.2.2.2.2.length:Int)=(0:Int)then(((if(0:UInt8)=(0:UInt8)then(if(0:Int)=(0:Int)then(if a4.2=(8:UInt8)then some true else some false)else some false)else some false)).bind fun(a5:Bool)=>some a5)else(((if(0:UInt8)=(0:UInt8)then(if(0:Int)=(1:Int)then(gd (0<=(0:Int)/\(0:Int)<(0:Int))<|none)else some ())else some ())).bind fun(b0:Unit)=>some false)))else(gd ((0+y8.2.2.2.2.2.length)*1<=140737488355328)<|(((abh fu y8 fu (0:Int) ([]:List (Str×Str)))).bind fun(a6:List (Str×Str))=>((acp fu y8 ([84,69,88,84,47,80,108,97,105,110]:Str)).bind fun(a0:(((List (Str×Str))×(List UInt8))×UInt8))=>(if(m_0.2.2.2.2.2.length:Int)=(0:Int)then(((if(0:UInt8)=(0:UInt8)then(if(1:Int)=(0:Int)then(if a0.2=(8:UInt8)then some true else some false)else some false)else some false)).bind fun(a7:Bool)=>some a7)else(((if(0:UInt8)=(0:UInt8)then(if(1:Int)=(1:Int)then(if y8.2.2.2.2.2=m_0.2.2.2.2.2 then(if a0.2=(0:UInt8)then((adi fu a0.1 (a6,y8.2.2.2.2.2)).bind fun(a8:Bool)=>(bif a8 then some true else some false))else some false)else some false)else some false)else some false)).bind fun(a9:Bool)=>some a9))))))))))))
end Go.Wk
set_option maxRecDepth 100000
namespace Go.Wk
open Go.Px
open Int renaming toNat -> zap
open List renaming append_assoc -> zaN, length_append -> zak, length_cons -> zan
open Option renaming bind_some -> zaa
def FU:Nat:=18446744073709551616
theorem FU_eq:FU=18446744073709551616:=rfl
theorem at_mid(p:Str)(c:UInt8)(l:Str):at_ (p++c::l) (p.length:Int)=c:=by simp [at_]
theorem set_mid(p:Str)(c x:UInt8)(l:Str):List.set (p++c::l) (zap (p.length:Int)) x=(p++[x])++l:=by simp
theorem len_snoc(p:Str)(x:UInt8):((p.length:Int)+1)=((p++[x]).length:Int):=by simp
theorem ok_of(a:Int)(h0:0<=a)(h:a<=9223372036854775807):ok64 a:=⟨by omega,by omega⟩
theorem char_token(fu:Nat)(c:UInt8):acn fu c=some (agb c):=by
 show acn 0 c=_
 revert c;exact byte_all _ (by decide+kernel)
theorem lowerByte_eq(fu:Nat)(c:UInt8):abp fu c=some (lowerB c):=by
 show abp 0 c=_
 revert c;exact byte_all _ (by decide+kernel)
theorem tokEnd_lp{fu:Nat}(s:Str)(hs:s.length<=9223372036854775807)(n:Nat):∀(k fk:Nat),k+n=s.length->n<fk->
  aaw fu s fk (k:Int)=some ((k+span agb (s.drop k):Nat):Int):=by
 induction n with
 |zero=>
  intro k fk hk hf;obtain⟨fk,rfl⟩:=fkx fk;rw [abn,aau,if_neg omg,List.drop_eq_nil_of_le omg];simp [span]
 |succ n ih=>
  intro k fk hk hf;obtain⟨fk,rfl⟩:=fkx fk;rw [abn,aau,if_pos omg,abc omg,char_token,drop_at s k omg];simp only [zaa];cases h:agb (at_ s k)
  ·simp [span,h]
  ·rw [cond_true];rw [abc (ok_of _ omg omg)];have e:((k:Int)+1)=((k+1:Nat):Int):=rfl;rw [e,ih (k+1) fk omg omg];have e2:span agb (at_ s k::s.drop (k+1))=1+span agb (s.drop (k+1)):=by simp [span,h,Nat.add_comm]
   rw [e2,Nat.add_assoc]
theorem skipTok_eq(s:Str)(hs:s.length<=9223372036854775807)(i:Int):abd FU s i=some ((skipL agb s i:Nat):Int):=by
 unfold abd skipL;have h:min (max i 0) (s.length:Int)=((clampN i s.length:Nat):Int):=by unfold clampN;omega
 have:=clampN_le i s.length
 rw [h,tokEnd_lp s hs (s.length-clampN i s.length) _ FU omg (by rw [FU_eq];omega)];rfl
theorem tok_cases(s:Str):(if s=[]then some false else some (decide (((skipL agb s 0:Nat):Int)=(s.length:Int))))=some (isTok s):=by
 have:=tok_iff s
 by_cases h:s=[]
 ·subst h;rfl
 ·rw [if_neg h];congr 1;by_cases h2:((skipL agb s 0:Nat):Int)=(s.length:Int)
  ·rw [decide_eq_true h2,this.1 ⟨h,h2⟩]
  ·rw [decide_eq_false h2];cases h3:isTok s
   ·rfl
   ·exact absurd (this.2 h3).2 h2
theorem token_eq(s:Str)(hs:s.length<=9223372036854775807):aek FU s=some (isTok s):=by
 unfold aek ady;rw [skipTok_eq s hs];simp only [zaa,Option.bind_fun_some];exact tok_cases s
theorem mid_lt(p:Str)(c:UInt8)(l:Str):(0:Int)<=(p.length:Int)/\(p.length:Int)<((p++c::l).length:Int):=by
 rw [zak,zan];omega
theorem lower_lp{fu:Nat}(s:Str)(hs:s.length<=9223372036854775807)(l:Str):∀(p:Str) (fk:Nat),p.length+l.length=s.length->l.length<fk->
  aap fu s fk (p++l) (p.length:Int)=some (p++l.map lowerB):=by
 induction l with
 |nil=>
  intro p fk hk hf;obtain⟨fk,rfl⟩:=fkx fk;simp only [List.length_nil]at hk;rw [abg,aan,if_neg omg];rfl
 |cons c l ih=>
  intro p fk hk hf;obtain⟨fk,rfl⟩:=fkx fk;simp only [zan]at hk hf;have hb:=mid_lt p c l;rw [abg,aan,if_pos omg,abc hb,abc hb,at_mid,lowerByte_eq];simp only [zaa];rw [abc hb,abc hb,abc (ok_of _ omg omg),set_mid,len_snoc p (lowerB c),ih (p++[lowerB c]) fk (by rw [zak,List.length_singleton];omega) omg];simp
theorem lower_eq(s:Str)(hs:s.length<=9223372036854775807):aam FU s=some (lowerL s):=by
 unfold aam
 have:=lower_lp (fu:=FU) s hs s [] FU (by simp) (by rw [FU_eq];omega)
 simp only [List.nil_append,List.length_nil,Int.natCast_zero,Int.cast_ofNat_Int]at this;rw [this];rfl
def longN(c:UInt8):Str:=(ada FU c).getD []
theorem long_eq:∀c:UInt8,ada FU c=some (longN c):=byte_all _ (by decide+kernel)
def title:Bool->Str->Str
 |_,[]=>[]
 |f,c::l=>(if f then upperB c else lowerB c)::title (c==45) l
theorem canon1_eq(fu:Nat)(f:Bool)(c:UInt8):adk fu c f=some (if f then upperB c else lowerB c,c==45):=by
 show adk 0 c f=_
 revert c;cases f<;>exact byte_all _ (by decide+kernel)
theorem title_lp{fu:Nat}(s:Str)(hs:s.length<=9223372036854775807)(l:Str):∀(p:Str) (f:Bool) (fk:Nat),p.length+l.length=s.length->l.length<fk->
  (aas fu s fk (p++l) (p.length:Int) f).map (·.1)=some (p++title f l):=by
 induction l with
 |nil=>
  intro p f fk hk hf;obtain⟨fk,rfl⟩:=fkx fk;simp only [List.length_nil]at hk;rw [abl,aaq,if_neg omg];rfl
 |cons c l ih=>
  intro p f fk hk hf;obtain⟨fk,rfl⟩:=fkx fk;simp only [zan]at hk hf;have hb:=mid_lt p c l;rw [abl,aaq,if_pos omg,abc hb,abc hb,at_mid,canon1_eq,zaa,
   abc hb,abc hb,abc (ok_of _ omg omg),set_mid,len_snoc p (if f then upperB c else lowerB c),ih _ _ fk (by rw [zak,List.length_singleton];omega) omg,zaN]
  rfl
theorem title_eq(s:Str)(hs:s.length<=9223372036854775807):∃b,aar FU s true=some (title true s,b):=by
 unfold aar
 have:=title_lp (fu:=FU) s hs s [] true FU (by simp) (by rw [FU_eq];omega)
 obtain⟨r,h1,h2⟩:=Option.map_eq_some_iff.1 this;refine⟨r.2, ?_⟩
 rw [show((0:Int))=(([]:Str).length:Int)from rfl,show s=[]++s from rfl];simp only [List.nil_append]at h1 h2⊢;rw [h1,zaa,h2]
def aeq(s:Str):Str×UInt8:=
 if isTok s=false\/64<s.length then([],5)
 else if s.length=1/\longN (lowerB (at_ s 0))≠[]then(longN (lowerB (at_ s 0)),0)
 else((abq FU (lowerL s) FU 0).getD (.inl ())).elim (fun _=>(title true s,0)) id
def specialO:List Str->Str->Option (Unit⊕(Str×UInt8))
 |[],_=>some (.inl ())
 |n::l,y=>if lowerL n=y then some (.inr (n,0))else specialO l y
theorem specialO_some(y:Str):∀l,∃r,specialO l y=some r
 |[]=>⟨_,rfl⟩
 |n::l=>by
  unfold specialO;split
  ·exact⟨_,rfl⟩
  ·exact specialO_some y l
theorem special_list(y:Str):abq FU y FU 0=specialO acq y:=by kernel_rfl
theorem special_some(y:Str):∃r,abq FU y FU 0=some r:=by
 rw [special_list];exact specialO_some y _
theorem canon_eq(s:Str)(hs:s.length<=9223372036854775807):acs FU s=some (aeq s):=by
 unfold acs aeq;rw [token_eq s hs,zaa];obtain⟨r,hr⟩:=special_some (lowerL s);obtain⟨b,hb⟩:=title_eq s hs;cases ht:isTok s
 ·rfl
 ·rw [Bool.not_true,cond_false,zaa];by_cases h64:64<s.length
  ·rw [decide_eq_true omg,cond_true,if_pos (Or.inr h64)]
  ·have hc:¬(true=false\/64<s.length):=by simp [h64]
   rw [decide_eq_false omg,cond_false,if_neg hc,lower_eq s hs,zaa,hr,zaa,Option.getD_some];have hrest:Sum.elim (fun(v90:Unit)=>((aar FU s true).bind fun(y130:(Str×Bool))=>some (y130.1,(0:UInt8)))) (fun q=>some q) r=some (Sum.elim (fun _=>(title true s,0)) id r):=by
    cases r with
    |inl _=>rw [Sum.elim_inl,hb];rfl
    |inr _=>rfl
   by_cases h1:s.length=1
   ·have h1i:(s.length:Int)=1:=by omega
    rw [if_pos h1i,abc omg,lowerByte_eq,zaa,long_eq,zaa];by_cases h2:longN (lowerB (at_ s 0))=[]
    ·rw [if_pos h2,zaa,Sum.elim_inl,if_neg (fun h=>h.2 h2)];exact hrest
    ·rw [if_neg h2,zaa,Sum.elim_inr,if_pos ⟨h1,h2⟩]
   ·have h1i:¬(s.length:Int)=1:=by omega
    rw [if_neg h1i,zaa,Sum.elim_inl,if_neg (fun h=>h1 h.1)];exact hrest
theorem gok{α:Type}{p:Prop}[Decidable p]{k:Option α}(h:p:=by first|omega|exact ok_of _ omg omg|(simp only [List.length_append,List.length_cons,List.length_nil,List.length_singleton];omega)):gd p k=k:=abc h
theorem index_ge(p:Str):∀l:Str,-1<=Lib.index l p
 |[]=>by unfold Lib.index;split<;>omega
 |b::l=>by
  have:=index_ge p l
  rw [Lib.index];split
  ·omega
  ·split
   ·omega
   ·omega
open UInt8 renaming ofNat -> zaD
def dg(n:Fin 10):UInt8:=zaD (48+n.val)
open List renaming append_assoc -> zaN, length_append -> zak, length_cons -> zan, map_cons -> zav, replicate -> zad
open Nat renaming le_refl -> zab
abbrev HH:=Str×Str
abbrev MM:=Str×Str×Int×Str×List HH×List UInt8
def hsz(l:List HH):Nat:=(l.map fun z=>z.1.length+z.2.length).sum
theorem hsz_mem{l:List HH}{h:HH}(hm:h∈l):h.1.length+h.2.length<=hsz l:=by
 induction l with
 |nil=>cases hm
 |cons a l ih=>
  unfold hsz;rw [zav,List.sum_cons];rcases List.mem_cons.1 hm with rfl|hm
  ·omega
  ·have:=ih hm;unfold hsz at this;omega
def Sm(l:List HH):Prop:=l.length<=4194304/\∀h∈l,h.1.length<=4194303/\h.2.length<=4194303
theorem sm_of{l:List HH}(h1:l.length<=4194304)(h2:hsz l<=4194303):Sm l:=⟨h1,fun h hm=>by have:=hsz_mem hm;omega⟩
def pN(c:UInt8)(s:Str)(h:HH):Bool:=decide (c=0)&&decide ((aeq h.1).2=0)&&decide ((aeq h.1).1=s)
def nmP(name:Str):HH->Bool:=pN (aeq name).2 (aeq name).1
theorem named_eq(s:Str)(hs:s.length<=4194303):acz FU s=some ((aeq s).2,(aeq s).1):=by
 unfold acz;rw [canon_eq s (by omega),zaa]
theorem named1_eq(h:HH)(c:UInt8)(s:Str)(hs:h.1.length<=4194303):acg FU h c s=some (pN c s h):=by
 unfold acg pN;rw [canon_eq h.1 (by omega),zaa];by_cases h1:c=0
 ·rw [if_pos h1,decide_eq_true h1,Bool.true_and];by_cases h2:(aeq h.1).2=0
  ·rw [if_pos h2,decide_eq_true h2,Bool.true_and,zaa]
  ·rw [if_neg h2,decide_eq_false h2,Bool.false_and,zaa]
 ·rw [if_neg h1,decide_eq_false h1,Bool.false_and,Bool.false_and,zaa]
def ixP(p:HH->Bool):List HH->Int
 |[]=> -1
 |h::l=>if p h=true then 0 else if ixP p l= -1 then-1 else ixP p l+1
theorem ixP_ge(p:HH->Bool):∀l,-1<=ixP p l
 |[]=>Int.le_refl _
 |h::l=>by have:=ixP_ge p l;unfold ixP;split<;>(try split)<;>omega
theorem ixP_lt(p:HH->Bool):∀l,ixP p l<(l.length:Int)
 |[]=>by unfold ixP;simp
 |h::l=>by have:=ixP_lt p l;rw [zan];unfold ixP;split<;>(try split)<;>omega
theorem ixP_none(p:HH->Bool):∀l,ixP p l= -1->∀h∈l,p h=false
 |[],_,h,hm=>by cases hm
 |a::l,hi,h,hm=>by
  have hg:=ixP_ge p l;unfold ixP at hi;by_cases ha:p a=true
  ·rw [if_pos ha]at hi;omega
  ·rw [if_neg ha]at hi;by_cases h1:ixP p l= -1
   ·rcases List.mem_cons.1 hm with rfl|hm
    ·simpa using ha
    ·exact ixP_none p l h1 h hm
   ·rw [if_neg h1]at hi;omega
theorem ixP_some(p:HH->Bool):∀l,ixP p l≠-1->∃a x b,l=a++x::b/\(∀h∈a,p h=false)/\p x=true/\ixP p l=(a.length:Int)
 |[],h=>absurd rfl h
 |c::l,h=>by
  by_cases hc:p c=true
  ·exact⟨[],c,l,rfl,fun h hm=>(List.not_mem_nil hm).elim,hc,(show(if p c=true then(0:Int)else _)=_ from if_pos hc)⟩
  ·by_cases h1:ixP p l= -1
   ·exfalso;apply h;unfold ixP;rw [if_neg hc,if_pos h1]
   ·obtain⟨a,x,b,e1,e2,e3,e4⟩:=ixP_some p l h1;refine⟨c::a,x,b,by rw [e1];rfl,fun h hm=> ?_,e3, ?_⟩
    ·rcases List.mem_cons.1 hm with rfl|hm
     ·simpa using hc
     ·exact e2 h hm
    ·unfold ixP;rw [if_neg hc,if_neg h1,e4,zan];omega
theorem index_lp(c:UInt8)(s:Str)(l:List HH)(hl:Sm l)(q:List HH):∀(p:List HH) (fk:Nat),l=p++q->q.length<fk->
  aaf FU l c s fk (p.length:Int)=some (if ixP (pN c s) q= -1 then .inl ()else .inr ((p.length:Int)+ixP (pN c s) q)):=by
 induction q with
 |nil=>
  intro p fk h hf;obtain⟨fk,rfl⟩:=fkx fk;rw [List.append_nil]at h;rw [aax,aaj,if_neg (by rw [h];omega)];rfl
 |cons a q ih=>
  intro p fk h hf;obtain⟨fk,rfl⟩:=fkx fk;have hll:=congrArg List.length h;simp only [zak,zan]at hll hf;have hln:=hl.1;have hb:(0:Int)<=(p.length:Int)/\(p.length:Int)<(l.length:Int):=by omega
  have he:el l (p.length:Int)=a:=by rw [h];simp [el]
  have ha:=(hl.2 a (by rw [h];simp)).1;rw [aax,aaj,if_pos hb.2,abc hb,abc hb,he,named1_eq a c s ha,zaa,ixP];by_cases h0:pN c s a=true
  ·rw [h0,if_pos rfl,if_neg (by decide)];simp
  ·rw [if_neg h0,show pN c s a=false by simpa using h0,abc (ok_of _ (by omega) (by omega))]
   have:=ih (p++[a]) fk (by rw [h];simp) (by omega)
   rw [show((p.length:Int)+1)=((p++[a]).length:Int)by simp];rw [cond_false,this];have hg:=ixP_ge (pN c s) q;by_cases h1:ixP (pN c s) q= -1
   ·rw [if_pos h1,if_pos h1,if_pos rfl]
   ·rw [if_neg h1,if_neg h1,if_neg (by omega),zak,List.length_singleton];congr 2
    omega
theorem index_eq(c:UInt8)(s:Str)(l:List HH)(hl:Sm l):aag FU l c s=some (ixP (pN c s) l):=by
 unfold aag
 have:=index_lp c s l hl l [] FU rfl (by have:=hl.1;rw [FU_eq];omega)
 have this':aaf FU l c s FU (0:Int)=_:=this;rw [this',zaa];by_cases h:ixP (pN c s) l= -1
 ·rw [if_pos h,Sum.elim_inl,h]
 ·rw [if_neg h,Sum.elim_inr];simp
theorem copied_eq(m:MM)(h1:m.2.2.2.2.1.length<=4194304)(h2:m.2.2.2.2.2.length<=4194304):adj FU m=some m:=by
 unfold adj;have hg:(0:Int)<=(m.2.2.2.2.1.length:Int)/\(32:Int)*(m.2.2.2.2.1.length:Int)<=281474976710656:=by omega
 have e:= @abc MM (0<=(m.2.2.2.2.1.length:Int)/\(32:Int)*(m.2.2.2.2.1.length:Int)<=281474976710656) (dMk 32 (m.2.2.2.2.1.length:Int)) (gd ((0+m.2.2.2.2.2.length)*1<=140737488355328)<|some (m.1,m.2.1,m.2.2.1,m.2.2.2.1,cpy (zad (zap (m.2.2.2.2.1.length:Int)) (([]:Str),([]:Str))) m.2.2.2.2.1,m.2.2.2.2.2)) hg;refine Eq.trans e ?_;rw [abc (by omega),cpy_full _ _ (by simp)]
theorem drop_lp(c:UInt8)(s:Str)(q:List HH):∀(l:List HH) (i j fk:Nat),Sm l->l.drop j=q->j<=l.length->i<=j->q.length<fk->
  ∃(l':List HH) (i':Nat),aad FU c s fk l (i:Int) (j:Int)=some (l',(i':Int))/\i'<=l'.length/\l'.take i'=l.take i++q.filter (fun h=> !pN c s h):=by
 induction q with
 |nil=>
  intro l i j fk hl hd hj hij hf;obtain⟨fk,rfl⟩:=fkx fk;have hjl:j=l.length:=by have:=congrArg List.length hd;simp at this;omega
  rw [aav,aai,if_neg (by omega)];exact⟨l,i,rfl,by omega,by simp⟩
 |cons a q ih=>
  intro l i j fk hl hd hj hij hf;obtain⟨fk,rfl⟩:=fkx fk;have hjl:j<l.length:=by have:=congrArg List.length hd;simp at this;omega
  have hln:=hl.1;have hb:(0:Int)<=(j:Int)/\(j:Int)<(l.length:Int):=by omega
  have hb2:(0:Int)<=(i:Int)/\(i:Int)<(l.length:Int):=by omega
  have hj1:l[j]=a:=by
   have:=List.drop_eq_getElem_cons hjl
   rw [hd]at this;exact(List.cons.inj this).1.symm
  have hd1:l.drop (j+1)=q:=by
   have:=List.drop_eq_getElem_cons hjl
   rw [hd]at this;exact(List.cons.inj this).2.symm
  have he:el l (j:Int)=a:=by rw [el_nat l j hjl,hj1]
  have ha:=(hl.2 a (by rw [<-hj1];exact List.getElem_mem hjl)).1;rw [aav,aai,if_pos hb.2,abc hb,abc hb,he,named1_eq a c s ha,zaa];rw [zan]at hf;by_cases h0:pN c s a=true
  ·rw [h0,Bool.not_true,cond_false,abc (ok_of _ (by omega) (by omega))];obtain⟨l',i',e1,e2,e3⟩:=ih l i (j+1) fk hl hd1 (by omega) (by omega) (by omega);refine⟨l',i',e1,e2, ?_⟩
   rw [e3,List.filter_cons_of_neg (by simp [h0])]
  ·have h0':pN c s a=false:=by simpa using h0
   rw [h0',Bool.not_false,cond_true,abc hb2,abc hb2,abc (ok_of _ (by omega) (by omega)),abc (ok_of _ (by omega) (by omega)),Int.toNat_natCast];have hs:Sm (l.set i a):=by
    refine⟨by simpa using hl.1,fun h hm=> ?_⟩
    rcases List.mem_or_eq_of_mem_set hm with hm|rfl
    ·exact hl.2 h hm
    ·exact hl.2 _ (by rw [<-hj1];exact List.getElem_mem hjl)
   obtain⟨l',i',e1,e2,e3⟩:=ih (l.set i a) (i+1) (j+1) fk hs (by rw [List.drop_set_of_lt (by omega)];exact hd1) (by simp;omega) (by omega) (by omega);refine⟨l',i',e1,e2, ?_⟩
   rw [e3,List.filter_cons_of_pos (by simp [h0'])];have ht:(l.set i a).take (i+1)=l.take i++[a]:=by
    rw [List.take_succ_eq_append_getElem (by simp;omega),List.getElem_set_self,List.take_set_of_le (zab _)]
   rw [ht,zaN];rfl
theorem delF_eq(c:UInt8)(s:Str)(l:List HH)(hl:Sm l):aal FU l c s=some (l.filter fun h=> !pN c s h):=by
 unfold aal;rw [index_eq c s l hl,zaa];by_cases h:ixP (pN c s) l= -1
 ·rw [if_pos h];congr 1
  exact(List.filter_eq_self.2 fun a ha=>by rw [ixP_none _ l h a ha];rfl).symm
 ·rw [if_neg h];obtain⟨a,x,b,e1,e2,e3,e4⟩:=ixP_some _ l h;have hln:=hl.1;have hll:=congrArg List.length e1;simp only [zak,zan]at hll;rw [e4,abc (ok_of _ (by omega) (by omega))];obtain⟨l',i',f1,f2,f3⟩:=drop_lp c s b l a.length (a.length+1) FU hl (by rw [e1];simp) (by omega) (by omega) (by rw [FU_eq];omega);have f1':aad FU c s FU l (a.length:Int) ((a.length:Int)+1)=some (l',(i':Int)):=f1;rw [f1',zaa];dsimp only;rw [abc (by omega),abc (by rw [clr_len];omega),Int.toNat_natCast,clr_take _ _ _ f2,f3,e1];congr 1
  rw [List.filter_append,List.filter_cons_of_neg (by simp [e3]),List.take_left,(List.filter_eq_self.2 fun h hm=>by rw [e2 h hm];rfl:a.filter (fun h=> !pN c s h)=a)]
theorem mdrop_eq(m:MM)(name:Str)(hl:Sm m.2.2.2.2.1)(hb:m.2.2.2.2.2.length<=4194304)(hn:name.length<=4194303):
  adw FU m name=some (m.1,m.2.1,m.2.2.1,m.2.2.2.1,m.2.2.2.2.1.filter (fun h=> !nmP name h),m.2.2.2.2.2):=by
 unfold adw;rw [copied_eq m hl.1 hb,zaa,named_eq name hn,zaa,delF_eq _ _ _ hl,zaa];rfl
theorem mget_eq(m:MM)(name:Str)(hl:Sm m.2.2.2.2.1)(hn:name.length<=4194303):
  acm FU m name=some (if ixP (nmP name) m.2.2.2.2.1<0 then([],false)else((el m.2.2.2.2.1 (ixP (nmP name) m.2.2.2.2.1)).2,true)):=by
 unfold acm;have hlt:=ixP_lt (nmP name) m.2.2.2.2.1;rw [named_eq name hn,zaa,index_eq _ _ _ hl,zaa];have e0:pN (aeq name).2 (aeq name).1=nmP name:=rfl;dsimp only;rw [e0];by_cases h:ixP (nmP name) m.2.2.2.2.1<0
 ·rw [if_pos h,if_pos h]
 ·rw [if_neg h,if_neg h,abc (by omega),abc (by omega)]
open List renaming append_assoc -> zaN, length_append -> zak, length_cons -> zan, replicate -> zad
open Nat renaming le_trans -> zax
abbrev cTy:Str:=[67,111,110,116,101,110,116,45,84,121,112,101]
abbrev tPl:Str:=[116,101,120,116,47,112,108,97,105,110]
abbrev cLn:Str:=[67,111,110,116,101,110,116,45,76,101,110,103,116,104]
abbrev cPr:Str:=[67,111,110,116,101,110,116,45]
def NoT(l:List HH):Prop:=Sm l/\∀y∈l,nmP cTy y=false
theorem not_ix(l:List HH)(h:NoT l):ixP (nmP cTy) l= -1:=by
 by_cases hi:ixP (nmP cTy) l= -1
 ·exact hi
 ·obtain⟨a,x,b,rfl,e2,e3,e4⟩:=ixP_some _ _ hi
  have:=h.2 x (by simp)
  rw [this]at e3;cases e3
theorem not_get(m:MM)(h:NoT m.2.2.2.2.1):acm FU m cTy=some ([],false):=by
 rw [mget_eq m cTy h.1 (by decide),if_pos (by rw [not_ix _ h];omega)]
theorem not_type(l:List HH)(b:Str)(h:NoT l):adb FU (l,b)=some (tPl,[]):=by
 unfold adb
 have:=not_get ([],[],0,[],l,[]) h
 dsimp only;rw [this,zaa];rfl
theorem pre_eq(s p:Str):abx FU s p=some (decide (p.length<=s.length)&&decide (s.take p.length=p)):=by
 unfold abx abi;by_cases h:p.length<=s.length
 ·rw [if_pos omg,abc omg,zaa,zaa,decide_eq_true h,Bool.true_and,Int.toNat_natCast]
 ·rw [if_neg omg,zaa,zaa,decide_eq_false h,Bool.false_and]
theorem not_several(l:List HH)(b:Str)(h:NoT l):abz FU (l,b)=some ([],false):=by
 unfold abz;rw [not_type l b h,zaa,pre_eq,zaa];rfl
def cntP(h:HH):Bool:=decide ((aeq h.1).2=0)&&(decide (cPr.length<=(aeq h.1).1.length)&&decide ((aeq h.1).1.take cPr.length=cPr))
theorem cnt_eq(h:HH)(hs:h.1.length<=4194303):ack FU h=some ((aeq h.1).1,cntP h):=by
 unfold ack cntP;rw [canon_eq h.1 omg,zaa];by_cases h0:(aeq h.1).2=0
 ·rw [if_pos h0,pre_eq,zaa,zaa,decide_eq_true h0,Bool.true_and]
 ·rw [if_neg h0,zaa,decide_eq_false h0,Bool.false_and]
def takP(h:HH):Bool:=cntP h&& !decide ((aeq h.1).1=cLn)
theorem tak_eq(h:HH):(bif cntP h then some (!decide ((aeq h.1).1=cLn))else some false)=some (takP h):=by
 unfold takP;cases cntP h<;>rfl
theorem find_lp1(m:MM)(hl:Sm m.2.2.2.2.1)(q:List HH):∀(p:List HH) (fk:Nat) (acc:List HH),m.2.2.2.2.1=p++q->q.length<fk->acc.length+q.length<=4194304->
  ach FU m fk (p.length:Int) acc=some (acc++q.filter takP):=by
 induction q with
 |nil=>
  intro p fk acc h hf ha;obtain⟨fk,rfl⟩:=fkx fk;rw [List.append_nil]at h;rw [aec,aco,if_neg (by rw [h];omega)];simp
 |cons a q ih=>
  intro p fk acc h hf ha;obtain⟨fk,rfl⟩:=fkx fk;have hll:=congrArg List.length h;simp only [zak,zan]at hll hf ha;have hln:=hl.1;have hb:(0:Int)<=(p.length:Int)/\(p.length:Int)<(m.2.2.2.2.1.length:Int):=by omega
  have he:el m.2.2.2.2.1 (p.length:Int)=a:=by rw [h];simp [el]
  have hsa:=hl.2 a (by rw [h];simp);have hi:((p.length:Int)+1)=((p++[a]).length:Int):=by simp
  have hg:ok64 ((p.length:Int)+1):=ok_of _ omg omg;rw [aec,aco,if_pos hb.2,abc hb,abc hb,he,cnt_eq a hsa.1,zaa];dsimp only;rw [tak_eq,zaa];by_cases h0:takP a=true
  ·rw [h0,cond_true,abc (by simp only [zan,List.length_nil];omega),abc hg,hi,
    ih (p++[a]) fk (acc++[a]) (by rw [h];simp) omg (by simp only [zak,zan,List.length_nil];omega),List.filter_cons_of_pos h0,zaN];rfl
  ·have h0':takP a=false:=by simpa using h0
   rw [h0',cond_false,abc hg,hi,ih (p++[a]) fk acc (by rw [h];simp) omg omg,List.filter_cons_of_neg (by simp [h0'])]
theorem law_lp0(m:MM)(hl:Sm m.2.2.2.2.1)(q:List HH):∀(p:List HH) (fk:Nat) (acc:List HH),m.2.2.2.2.1=p++q->q.length<fk->acc.length+q.length<=4194304->
  abh FU m fk (p.length:Int) acc=some (acc++q.filter takP):=by
 induction q with
 |nil=>
  intro p fk acc h hf ha;obtain⟨fk,rfl⟩:=fkx fk;rw [List.append_nil]at h;rw [aci,abm,if_neg (by rw [h];omega)];simp
 |cons a q ih=>
  intro p fk acc h hf ha;obtain⟨fk,rfl⟩:=fkx fk;have hll:=congrArg List.length h;simp only [zak,zan]at hll hf ha;have hln:=hl.1;have hb:(0:Int)<=(p.length:Int)/\(p.length:Int)<(m.2.2.2.2.1.length:Int):=by omega
  have he:el m.2.2.2.2.1 (p.length:Int)=a:=by rw [h];simp [el]
  have hsa:=hl.2 a (by rw [h];simp);have hi:((p.length:Int)+1)=((p++[a]).length:Int):=by simp
  have hg:ok64 ((p.length:Int)+1):=ok_of _ omg omg;rw [aci,abm,if_pos hb.2,abc hb,abc hb,he,cnt_eq a hsa.1,zaa];dsimp only;rw [tak_eq,zaa];by_cases h0:takP a=true
  ·rw [h0,cond_true,abc (by simp only [zan,List.length_nil];omega),abc hg,hi,
    ih (p++[a]) fk (acc++[a]) (by rw [h];simp) omg (by simp only [zak,zan,List.length_nil];omega),List.filter_cons_of_pos h0,zaN];rfl
  ·have h0':takP a=false:=by simpa using h0
   rw [h0',cond_false,abc hg,hi,ih (p++[a]) fk acc (by rw [h];simp) omg omg,List.filter_cons_of_neg (by simp [h0'])]
theorem bcopied_eq(p:List HH×Str)(h1:p.1.length<=4194304)(h2:p.2.length<=4194304):adr FU p=some p:=by
 unfold adr;have hg:(0:Int)<=(p.1.length:Int)/\(32:Int)*(p.1.length:Int)<=281474976710656:=by omega
 have e:= @abc (List HH×Str) (0<=(p.1.length:Int)/\(32:Int)*(p.1.length:Int)<=281474976710656) (dMk 32 (p.1.length:Int)) (gd ((0+p.2.length)*1<=140737488355328)<|some (cpy (zad (zap (p.1.length:Int)) (([]:Str),([]:Str))) p.1,p.2)) hg;refine Eq.trans e ?_;rw [abc omg,cpy_full _ _ (by simp)]
theorem low_eq:adx FU ([84,69,88,84,47,80,108,97,105,110]:Str)=some tPl:=by kernel_rfl
theorem not_tak(l:List HH)(h:NoT l):NoT (l.filter takP):=
 ⟨⟨zax (List.length_filter_le _ _) h.1.1,fun y hy=>h.1.2 y (List.mem_filter.1 hy).1⟩,fun y hy=>h.2 y (List.mem_filter.1 hy).1⟩
theorem find_none(m:MM)(h:NoT m.2.2.2.2.1)(hb:m.2.2.2.2.2.length=0):acp FU m ([84,69,88,84,47,80,108,97,105,110]:Str)=some (([],[]),8):=by
 unfold acp;rw [not_several m.2.2.2.2.1 m.2.2.2.2.2 h,zaa,cond_false,not_get m h,zaa,Bool.not_false,cond_true,decide_eq_true (show(m.2.2.2.2.2.length:Int)=0 by omega),zaa,cond_true,if_pos rfl,low_eq,zaa,if_neg (by decide)]
 have:∃k,FU=k+1:=⟨FU-1,by rw [FU_eq]⟩
 obtain⟨k,hk⟩:=this;have e:ade FU (k+1)=some (([],[]),8):=by
  rw [afk];unfold adp;rw [if_neg (by decide)]
 rw [<-hk]at e;exact e
theorem find_one(m:MM)(h:NoT m.2.2.2.2.1)(hb:¬m.2.2.2.2.2.length=0)(hb2:m.2.2.2.2.2.length<=4194304):
  acp FU m ([84,69,88,84,47,80,108,97,105,110]:Str)=some ((m.2.2.2.2.1.filter takP,m.2.2.2.2.2),0):=by
 unfold acp;have hln:=h.1.1;have e1:=find_lp1 m h.1 m.2.2.2.2.1 [] FU [] rfl (by rw [FU_eq];omega) (by simp;omega);have e1':ach FU m FU (0:Int) ([]:List HH)=_:=e1;rw [not_several m.2.2.2.2.1 m.2.2.2.2.2 h,zaa,cond_false,not_get m h,zaa,Bool.not_false,cond_true,decide_eq_false (show¬(m.2.2.2.2.2.length:Int)=0 by omega),zaa,cond_false,abc omg,e1',zaa,if_pos rfl,low_eq,zaa,if_neg (by decide),List.nil_append];have hf:=not_tak _ h
 have:∃k,FU=k+1:=⟨FU-1,by rw [FU_eq]⟩
 obtain⟨k,hk⟩:=this;have e:adc FU m (m.2.2.2.2.1.filter takP) tPl (k+1) (0:Int)=some ((m.2.2.2.2.1.filter takP,m.2.2.2.2.2),0):=by
  rw [afj];unfold ado;rw [if_pos (by decide),abc (by decide),not_type _ _ hf,zaa,if_pos rfl,bcopied_eq (m.2.2.2.2.1.filter takP,m.2.2.2.2.2) hf.1.1 hb2,zaa]
 rw [<-hk]at e;exact e
theorem bsame_lp(a:MM)(ha:a.2.2.2.2.1.length<=4194304)(q:List HH):∀(p:List HH) (fk:Nat),a.2.2.2.2.1=p++q->q.length<fk->acj FU a a fk (p.length:Int)=some (.inl ()):=by
 induction q with
 |nil=>
  intro p fk h hf;obtain⟨fk,rfl⟩:=fkx fk;rw [List.append_nil]at h;rw [aej,acy,if_neg (by rw [h];omega)]
 |cons x q ih=>
  intro p fk h hf;obtain⟨fk,rfl⟩:=fkx fk;have hll:=congrArg List.length h;simp only [zak,zan]at hll hf;have hb:(0:Int)<=(p.length:Int)/\(p.length:Int)<(a.2.2.2.2.1.length:Int):=by omega
  rw [aej,acy,if_pos hb.2,abc hb,abc hb,abc hb,abc hb,if_pos rfl,abc (ok_of _ omg omg),show((p.length:Int)+1)=((p++[x]).length:Int)by simp];exact ih (p++[x]) fk (by rw [h];simp) omg
theorem bsame_eq(p:List HH×Str)(ha:p.1.length<=4194304):adi FU p p=some true:=by
 unfold adi afr
 have:=bsame_lp (([]:Str),([]:Str),(0:Int),([]:Str),p.1,p.2) ha p.1 [] FU rfl (by rw [FU_eq];omega)
 have this':acj FU (([]:Str),([]:Str),(0:Int),([]:Str),p.1,p.2) (([]:Str),([]:Str),(0:Int),([]:Str),p.1,p.2) FU (0:Int)=_:=this;rw [if_pos rfl,if_pos rfl,if_pos rfl,if_pos rfl,if_pos rfl,decide_eq_true rfl,Bool.not_true,zaa,cond_false,this',zaa,Sum.elim_inl,zaa]
theorem plain_BodiesSingle(m:Str×Str×Int×Str×List (Str×Str)×List UInt8)(h:(m.2.2.2.2.1.map fun z=>z.1.length+z.2.length).sum+m.2.2.2.2.2.length<=1048576):acu FU m=some true:=by
 have h':hsz m.2.2.2.2.1+m.2.2.2.2.2.length<=1048576:=h;unfold acu;by_cases h0:(100:Int)<(m.2.2.2.2.1.length:Int)
 ·rw [if_pos h0]
 ·have hl:Sm m.2.2.2.2.1:=sm_of omg omg;have hb:m.2.2.2.2.2.length<=4194304:=by omega
  rw [if_neg h0,mdrop_eq m cTy hl hb (by decide),zaa];have hn:NoT (m.2.2.2.2.1.filter fun h=> !nmP cTy h):=
   ⟨⟨zax (List.length_filter_le _ _) hl.1,fun y hy=>hl.2 y (List.mem_filter.1 hy).1⟩,fun y hy=>by simpa using (List.mem_filter.1 hy).2⟩
  generalize(m.2.2.2.2.1.filter fun h=> !nmP cTy h)=F at hn
  have hG:=not_get (m.1,m.2.1,m.2.2.1,m.2.2.2.1,F,m.2.2.2.2.2) hn;dsimp only;rw [not_several F _ hn,zaa,cond_false,hG,zaa,Bool.not_false,cond_true];by_cases hz:m.2.2.2.2.2.length=0
  ·have hF:=find_none (m.1,m.2.1,m.2.2.1,m.2.2.2.1,F,m.2.2.2.2.2) hn hz;rw [decide_eq_true (show(m.2.2.2.2.2.length:Int)=0 by omega),zaa,cond_true,hF,zaa,if_pos (show(m.2.2.2.2.2.length:Int)=0 by omega),if_pos rfl,if_pos rfl,if_pos rfl,zaa]
  ·have hF:=find_one (m.1,m.2.1,m.2.2.1,m.2.2.2.1,F,m.2.2.2.2.2) hn hz hb;have e1:=law_lp0 (m.1,m.2.1,m.2.2.1,m.2.2.2.1,F,m.2.2.2.2.2) hn.1 F [] FU [] rfl (by have:=hn.1.1;rw [FU_eq];omega) (by have:=hn.1.1;simp;omega);have e1':abh FU (m.1,m.2.1,m.2.2.1,m.2.2.2.1,F,m.2.2.2.2.2) FU (0:Int) ([]:List HH)=_:=e1;rw [decide_eq_false (show¬(m.2.2.2.2.2.length:Int)=0 by omega),zaa,cond_false,abc omg,e1',zaa,List.nil_append,hF,zaa,if_neg (show¬(m.2.2.2.2.2.length:Int)=0 by omega),if_pos rfl,if_pos (by decide),if_pos rfl,if_pos rfl,bsame_eq _ (not_tak F hn).1.1,zaa,cond_true,zaa]
end Go.Wk
