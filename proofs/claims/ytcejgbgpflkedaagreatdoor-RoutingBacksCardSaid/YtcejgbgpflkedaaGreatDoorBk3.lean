/-
  The law RoutingBacks holds (part 3 of 8).
-/
import Derived.Test.YtcejgbgpflkedaaGreatDoorBk2
import Derived.Lib.Overlaps
import Derived.Lib.Join
set_option linter.constructorNameAsVariable false
set_option linter.unusedVariables false
set_option linter.unusedSimpArgs false
set_option linter.constructorNameAsVariable false
namespace Go.Ce
open Go.Wk
open List renaming mem_cons_of_mem -> zaD, mem_cons_self -> zaI
open Nat renaming le_trans -> zaF, lt_of_lt_of_le -> zaj
open Option renaming map_some -> zaV, rec -> zan
def ro(E:En)(m:M):Option (Option Nat):=m.m.map fun x=>x.map fun l=>(E l).1
def dl(E:En)(D:Option Nat):List Deferred:=match D with|none=>[]|some r=>[Go.Wk.mark (E r).1]
def arl(E:En)(m:M)(D:Option Nat):Md:=⟨m.n,dl E D,ro E m⟩
def Mok(k:Nat)(m:M):Prop:=∀l,m.m=some (some l)->l<k
def Dok(k:Nat)(D:Option Nat):Prop:=∀r,D=some r->r<k
theorem ro_ext{k:Nat}{E E':En}(h:Ag k E E'){m:M}(hm:Mok k m):ro E' m=ro E m:=by
 unfold ro;obtain⟨n,mm⟩:=m;cases mm with
 |none=>rfl
 |some x=>cases x with
  |none=>rfl
  |some l=>simp only [zaV];rw [h l (hm l rfl)]
theorem dl_ext{k:Nat}{E E':En}(h:Ag k E E'){D:Option Nat}(hd:Dok k D):dl E' D=dl E D:=by
 cases D with
 |none=>rfl
 |some r=>simp only [dl];rw [h r (hd r rfl)]
theorem mdOf_ext{k:Nat}{E E':En}(h:Ag k E E'){m:M}(hm:Mok k m){D:Option Nat}(hd:Dok k D):arl E' m D=arl E m D:=by
 unfold arl;rw [ro_ext h hm,dl_ext h hd]
theorem Mok.up{k k':Nat}(h:k<=k'){m:M}(hm:Mok k m):Mok k' m:=fun l e=>zaj (hm l e) h
theorem Dok.up{k k':Nat}(h:k<=k'){D:Option Nat}(hm:Dok k D):Dok k' D:=fun l e=>zaj (hm l e) h
def exr:Ex->Exit
 |.nm=>.normal
 |.rt=>.ret
 |.xt id=>.exit id
def Ovl(P:Program)(k:Nat):Prop:=∃fn tS tR e sz,P.funcs[k]? =some fn/\fn.body=none/\Extern.findNext fn=none/\Extern.find fn=some (Extern.SlicesOverlaps.overlaps #[tS,tS] #[tR])/\P.underlying tS=some (.slice e)/\sval P (sizeOf e)=some sz
structure Cok (C:Cx) (Gp:World->Prop):Prop where
 gp:∀{w0 w:World} {L:List Res},Gp w0->Hp w0 [] L w->Gp w
 g:∀{w:World},Gp w->Gok C.G w
 ng : ∀ (f : Nat) (fn : Func), C.P.funcs[f]? = some fn -> (fn.name == "runtime.NumGoroutine") = false
 mo:C.P.follows .mixedOrders=true
 ov:∀k,C.V k=true->Ovl C.P k
structure At (C:Cx) (Gp:World->Prop) (m:M) (S:T) (w0:World) (E:En) (w:World):Prop where
 inv:Inv w0 E S.H w
 fok:Fok S.H.nx S.F
 gp:Gp w0
 m:Mok S.H.nx m
 d:Dok S.H.nx S.D
theorem At.sd{C:Cx}{Gp:World->Prop}(hC:Cok C Gp){m:M}{S:T}{w0:World}{E:En}{w:World}(h:At C Gp m S w0 E w):Sd C m S (arl E m S.D) w0 E w:=⟨rfl,h.inv,h.fok,hC.g h.gp⟩
def ala(C:Cx)(Gp:World->Prop)(call:List SV->Hs->Option (SV×Hs))(k:Nat):Prop:=
 ∀vs H v H',call vs H=some (v,H')->∀w0 E w,Gp w0->Inv w0 E H w->(∀x∈vs,x.ok H.nx)->
  Enters C.P k/\CR C.P k (vs.map (SV.re E)) w fun V w'=>∃E',Ag H.nx E E'/\H.nx<=H'.nx/\Inv w0 E' H' w'/\v.ok H'.nx/\V=v.re E'
def Then(C:Cx)(Gp:World->Prop)(m:M)(S S':T)(w0:World)(E:En)(Q:En->World->Prop):Prop:=
 ∀E' w',Ag S.H.nx E E'->S.H.nx<=S'.H.nx->At C Gp m S' w0 E' w'->Q E' w'
def asp(C:Cx)(Gp:World->Prop)(run:M->T->Option (Ex×T))(c:Code):Prop:=
 ∀m S e S',run m S=some (e,S')->∀w0 E w Q,At C Gp m S w0 E w->NoP Q->
  Then C Gp m S S' w0 E (fun E' w'=>Q (exr e) (fr (arl E' m S'.D) (rF E' S'.F)) w')->Go.Wk.C C.P (arl E m S.D) Q c (rF E S.F) w
structure KsOk (C:Cx) (Gp:World->Prop) (K:Ks):Prop where
 call:∀k,ala C Gp (K.call k) k
 run:∀c,asp C Gp (fun m S=>K.run m c S) c
section
variable {C : Cx} {Gp : World -> Prop} {m : M} {S S' : T} {w0 w : World} {E E' : En} {K : Ks} {H : Hs}
theorem evL_ok{n:Md}(h:Sd C m S n w0 E w):∀{l:List Operand} {vs:List SV},evL m S l=some vs->l.map (evn n (rF E S.F))=vs.map (SV.re E)/\∀x∈vs,x.ok S.H.nx
 |[],vs,hv=>by
  have e:[]=vs:=Option.some.inj hv;subst e;simp
 |x::l,vs,hv=>by
  obtain⟨v,h1,hv⟩:=aaa hv;obtain⟨q,h2,hv⟩:=aaa hv;cases hv
  obtain⟨h3,h4⟩:=asy h h1;obtain⟨h5,h6⟩:=evL_ok h (show evL m S l=some q from h2);refine⟨by simp [h3,h5],fun y hy=> ?_⟩
  rcases List.mem_cons.1 hy with rfl|hy
  ·exact h4
  ·exact h6 y hy
theorem ptrs_ok{k:Nat}(E:En):∀{l:List Nat},(∀i∈l,i<k)->(ptrs l).map (SV.re E)=l.map (fun i=>Value.pointer (some ⟨(E i).1,0,none⟩))/\∀x∈ptrs l,x.ok k
 |[],_=>⟨rfl,fun x hx=>by cases hx⟩
 |i::l,h=>by
  obtain⟨h1,h2⟩:=ptrs_ok (k:=k) E (l:=l) fun j hj=>h j (zaD _ hj)
  refine⟨?_,fun x hx=> ?_⟩
  ·show(SV.c (.p i 0)).re E::(ptrs l).map (SV.re E)=_
   rw [h1];rfl
  ·rcases List.mem_cons.1 (show x∈SV.c (.p i 0)::ptrs l from hx)with rfl|hx
   ·exact h i (zaI)
   ·exact h2 x hx
theorem at_set(h:At C Gp m S w0 E w){H':Hs}{w':World}(ha:Ag S.H.nx E E')(hn:S.H.nx<=H'.nx)(hi:Inv w0 E' H' w')(d:Nat){v:SV}(hv:v.ok H'.nx):At C Gp m ⟨S.F.set d v,H',S.D⟩ w0 E' w':=
 ⟨hi,(Fok.up hn h.fok).set d hv,h.gp,h.m.up hn,h.d.up hn⟩
theorem at_same(h:At C Gp m S w0 E w){H':Hs}{w':World}(ha:Ag S.H.nx E E')(hn:S.H.nx<=H'.nx)(hi:Inv w0 E' H' w'):At C Gp m ⟨S.F,H',S.D⟩ w0 E' w':=
 ⟨hi,Fok.up hn h.fok,h.gp,h.m.up hn,h.d.up hn⟩
def Wd(C:Cx)(Gp:World->Prop)(m:M)(ops:Array Oper)(S S':T)(w0:World)(E:En)(w:World)(o:Oper):Prop:=
 ∀(rest:List Oper) (Q:Exit->Act->World->Prop),Then C Gp m S S' w0 E (fun E' w'=>Go.Wk.W C.P (arl E m S.D) ops Q rest (rF E' S'.F) w')->Go.Wk.W C.P (arl E m S.D) ops Q (o::rest) (rF E S.F) w
theorem w_run0{P:Program}{n:Md}{ops:Array Oper}{Q:Exit->Act->World->Prop}{F:Nat->Value}{o:Oper}{rest:List Oper}{v:Value}{w':World}(hg:o.guard=none)(hd:o.dst=none)
  (hrun:(execOp (evn n F) o).run P w=.ok (.value v) w') (h:Go.Wk.W P n ops Q rest F w'):Go.Wk.W P n ops Q (o::rest) F w:=by
 obtain⟨k,D,ro⟩:=n;unfold Go.Wk.W WR at h⊢;cases ro with
 |none=>
  refine wpList_plain hg fun K hK=> ?_
  unfold Oper.wp;rw [ajv,hrun,Oper.upon_value,hd];exact hK _ _ h
 |some r=>
  refine wpListIn_plain hg fun K hK=>⟨atv, ?_⟩
  rw [ajv,ato _ hrun (fun d e=>by cases e),hrun,Oper.uponIn_value,hd];exact hK _ _ h
theorem opO_wd(hC:Cok C Gp)(h:At C Gp m S w0 E w){ops:Array Oper}{o:Oper}(hg:o.guard=none)(hv:opO C m S o=some S'):Wd C Gp m ops S S' w0 E w o:=by
 intro rest Q hk;obtain⟨r,h1,hv⟩:=aaa hv;obtain⟨E',w',g1,g2,g3,g4,g5⟩:=opW_ok (h.sd hC) h1;obtain⟨r1,H'⟩:=r;cases r1 with
 |none=>
  obtain⟨h2,hv⟩:=aaf (show bi o.dst.isNone (some (⟨S.F,H',S.D⟩:T)) none=some S' from hv);cases hv
  have hd:o.dst=none:=by simpa using h2
  refine w_skip hg hd g5 ?_;have hq:Go.Wk.W C.P (arl E m S.D) ops Q rest (rF E' S.F) w':=hk E' w' g1 g2 (at_same h g1 g2 g3);rw [rF_ext g1 h.fok]at hq;exact hq
 |some v=>
  cases h2:o.dst with
  |none=>
   have hv:(zan (motive:=fun _=>Option T) (some ⟨S.F,H',S.D⟩) (fun d=>some ⟨S.F.set d v,H',S.D⟩) o.dst)=some S':=hv;rw [h2]at hv;obtain rfl:(⟨S.F,H',S.D⟩:T)=S':=Option.some.inj hv;refine w_run0 hg h2 g5 ?_;have hq:Go.Wk.W C.P (arl E m S.D) ops Q rest (rF E' S.F) w':=hk E' w' g1 g2 (at_same h g1 g2 g3);rw [rF_ext g1 h.fok]at hq;exact hq
  |some d=>
  have hv:(zan (motive:=fun _=>Option T) (some ⟨S.F,H',S.D⟩) (fun d=>some ⟨S.F.set d v,H',S.D⟩) o.dst)=some S':=hv;rw [h2]at hv;obtain rfl:(⟨S.F.set d v,H',S.D⟩:T)=S':=Option.some.inj hv;refine acn hg h2 g5 ?_;have hq:Go.Wk.W C.P (arl E m S.D) ops Q rest (rF E' (S.F.set d v)) w':=hk E' w' g1 g2 (at_set h g1 g2 g3 d g4);rw [rF_set,rF_ext g1 h.fok]at hq;exact hq
theorem gok_call{f:Operand}{args:Array Operand}{o:Oper}(hc:isCall o.op=some (f,args)):∃ats,o.op=.call ⟨.value f,args,ats⟩:=by
 obtain⟨d,op,ty,pos,after,gd⟩:=o;cases op with
 |call c=>
  obtain⟨cl,azq,ts⟩:=c;cases cl with
  |value g=>cases hc;exact⟨ts,rfl⟩
  |_=>cases hc
 |_=>cases hc
theorem hbL_ok{b:HB}{q:Bool×Lq}(h:b.asL=some q):b=.lp q.1 q.2.1 q.2.2.1 q.2.2.2.1 q.2.2.2.2.1 q.2.2.2.2.2.1 q.2.2.2.2.2.2:=by
 cases b<;>first|(cases h;rfl)|cases h
theorem lpAt_ok{H:Hs}{i:Nat}{busy:Bool}{q:Lq}(h:lpAt H i busy=some q):H.t.get i=some (.lp busy q.1 q.2.1 q.2.2.1 q.2.2.2.1 q.2.2.2.2.1 q.2.2.2.2.2):=by
 obtain⟨b,h1,h⟩:=aaa h;obtain⟨p,h2,h⟩:=aaa h;obtain⟨h3,h⟩:=aaf h;cases h
 rw [hbL_ok h2]at h1;have hb:p.1=busy:=by
  rw [abu,inot_eq]at h3;cases busy<;>cases hp:p.1<;>simp [hp]at h3⊢
 rw [hb]at h1;exact h1
theorem updP_ok{k:Nat}:∀{ps:List Nat} {F F1:Tr SV} {vs:List SV},updP F ps vs=some F1->Fok k F->(∀x∈vs,x.ok k)->ps.length=vs.length/\rF E F1=updL (rF E F) ps (vs.map (SV.re E))/\Fok k F1
 |[],F,F1,vs,h,hF,hv=>by
  obtain⟨h1,h⟩:=aaf (show bi vs.isEmpty (some F) none=some F1 from h);cases h
  cases vs with
  |nil=>exact⟨rfl,rfl,hF⟩
  |cons v vs=>cases h1
 |p::ps,F,F1,[],h,hF,hv=>by cases h
 |p::ps,F,F1,v::vs,h,hF,hv=>by
  obtain⟨h1,h2,h3⟩:=updP_ok (show updP (F.set p v) ps vs=some F1 from h) (hF.set p (hv v zaI)) fun x hx=>hv x (zaD _ hx)
  refine⟨by simp [h1], ?_,h3⟩
  rw [h2,rF_set];rfl
theorem lp_get(h:Inv w0 E H w){i:Nat}{busy:Bool}{q:Lq}(hq:lpAt H i busy=some q):i<H.nx/\Fok H.nx q.2.2.2.2.2/\∃rc:Loop,rc.assign=q.2.2.2.1/\rc.body=q.2.2.2.2.1/\rc.params=q.2.2.1.toArray/\rc.tmps=(fr ⟨q.2.1,[],some none⟩ (rF E q.2.2.2.2.2)).tmps/\
  (match busy with
  |false=>Hp w0 [] ((alr E H).set i (akz (E i).1 q.1 rc)) w
  |true=>Hp w0 [] ((alr E H).set i (lbusy (E i).1 rc)) w):=by
 have h1:=lpAt_ok hq;obtain⟨rc,r1,r2,r3,r4,r5⟩:=(h.hp.res _ (List.mem_of_getElem? (h.at h1))).1;refine⟨h.lt i _ h1,h.ok i _ h1,rc,r1,r2,r3,r4, ?_⟩
 cases busy with
 |false=>exact hp_weak h.hp (h.at h1) rfl r5
 |true=>exact hp_weak h.hp (h.at h1) rfl r5
def lres:Bool->Nat->Nat->Loop->Res
 |false,l,j,rc=>akz l j rc
 |true,l,_,rc=>lbusy l rc
theorem lp_put(h:Inv w0 E H w){i:Nat}{busy b':Bool}{j:Nat}{q:Lq}(hq:lpAt H i busy=some q){rc:Loop}{w':World}(r1:rc.assign=q.2.2.2.1)(r2:rc.body=q.2.2.2.2.1)(r3:rc.params=q.2.2.1.toArray)(r4:rc.tmps=(fr ⟨q.2.1,[],some none⟩ (rF E q.2.2.2.2.2)).tmps)
  {L:List Res} (hL:L=(alr E H).set i (lres b' (E i).1 j rc)) (hp:Hp w0 [] L w'):Inv w0 E (lpPut q b' j H i) w':=by
 have h1:=lpAt_ok hq;have hi:=h.lt i _ h1;refine h.upd hi (show Fok H.nx q.2.2.2.2.2 from h.ok i _ h1) ?_;subst hL;have hlen:i<(alr E H).length:=by rw [aph];exact hi
 have hk:=List.getElem?_set_self (a:=lres b' (E i).1 j rc) hlen
 have:=hp_weak (r':=resOf E i (.lp b' j q.2.1 q.2.2.1 q.2.2.2.1 q.2.2.2.2.1 q.2.2.2.2.2)) hp hk (by cases b'<;>rfl) (by
  have hr:=(hp.res _ (List.mem_of_getElem? hk)).1;cases b' with
  |false=>exact⟨rc,r1,r2,r3,r4,hr⟩
  |true=>exact⟨rc,r1,r2,r3,r4,hr⟩)
 rw [List.set_set]at this;exact this
def Post(H H':Hs)(w0:World)(E:En)(v:SV)(V:Value)(w':World):Prop:=∃E',Ag H.nx E E'/\H.nx<=H'.nx/\Inv w0 E' H' w'/\v.ok H'.nx/\V=v.re E'
theorem np_asg{P:Program}{l:Nat}{bd:Code}{R:Value->World->Prop}:NoP (AsgQ P l bd R):=by
 intro c a w h;unfold AsgQ at h;exact h
theorem np_rnd{P:Program}{l:Nat}{R:Value->World->Prop}:NoP (RndQ P l R):=by
 intro c a w h;unfold RndQ at h;exact h
theorem yield_ok{run:Ev}(hr:∀c,asp C Gp (fun m S=>run m c S) c){i:Nat}{vs:List SV}{H H':Hs}{v:SV}(hy:yieldE run i vs H=some (v,H'))(hg:Gp w0)(h:Inv w0 E H w)(hvs:∀x∈vs,x.ok H.nx):
  YR C.P (E i).1 (vs.map (SV.re E)) w (Post H H' w0 E v):=by
 obtain⟨q,h1,hy⟩:=aaa hy;obtain⟨h2,hy⟩:=aaf hy;obtain⟨F1,h3,hy⟩:=aaa hy;obtain⟨⟨x,S1⟩,h4,hy⟩:=aaa hy;rw [aao]at h2;obtain⟨hi,hF,rc,r1,r2,r3,r4,r5⟩:=lp_get h h1;rw [h2]at r5;obtain⟨u1,u2,u3⟩:=updP_ok (E:=E) h3 hF hvs;have hlen:i<(alr E H).length:=by rw [aph];exact hi
 refine yr_intro r5 i (List.getElem?_set_self hlen) r1 r2 r3 r4 (by rw [u1];simp) ?_;rw [<-u2];cases x with
 |rt=>cases hy
 |xt id=>cases hy
 |nm=>
 have hy2:yield2 run i q.2.1 q.2.2.2.2.1 S1=some (v,H'):=hy;refine hr q.2.2.2.1 ⟨q.2.1,some (some i)⟩ ⟨F1,H,none⟩ .nm S1 h4 w0 E w _ ⟨h,u3,hg,fun l e=>(by cases e;exact hi),fun r e=>by cases e⟩ np_asg ?_;intro E1 w1 a1 n1 at1;obtain⟨q2,h5,hy2⟩:=aaa hy2;obtain⟨h6,hy2⟩:=aaf hy2;obtain⟨h7,hy2⟩:=aaf hy2;obtain⟨⟨x2,S2⟩,h8,hy3⟩:=aaa hy2;rw [aao]at h6;have hD:S1.D=none:=by simpa using h7
 obtain⟨hi1,hF1,rc1,s1,s2,s3,s4,s5⟩:=lp_get at1.inv h5;rw [h6]at s5;have hlen1:i<(alr E1 S1.H).length:=by rw [aph];exact hi1
 have ei:(E1 i).1=(E i).1:=by rw [a1 i hi]
 rw [hD];show AsgQ C.P (E i).1 q.2.2.2.2.1 _ .normal (fr ⟨q.2.1,[],some (some (E1 i).1)⟩ (rF E1 S1.F)) w1;rw [ei];rw [ei]at s5;refine asg_next s5 i (List.getElem?_set_self hlen1) ?_;intro w2 hp2;rw [List.set_set]at hp2;have inv2:Inv w0 E1 (lpPut q2 true 0 S1.H i) w2:=lp_put at1.inv h5 (b':=true) (j:=0) s1 s2 s3 s4 (by rw [ei];rfl) hp2;have key:=hr q.2.2.2.2.1 ⟨q.2.1,some (some i)⟩ ⟨S1.F,lpPut q2 true 0 S1.H i,none⟩ x2 S2 h8 w0 E1 w2 (RndQ C.P (E i).1 (Post H H' w0 E v)) ⟨inv2,at1.fok,hg,fun l e=>(by cases e;exact hi1),fun r e=>by cases e⟩ np_rnd ?_
 ·have e1:arl E1 ⟨q.2.1,some (some i)⟩ none=⟨q.2.1,[],some (some (E i).1)⟩:=by rw [<-ei];rfl
  rw [e1]at key;exact key
 intro E2 w3 a2 n2 at2;obtain⟨q3,h9,hy3⟩:=aaa hy3;obtain⟨h10,hy3⟩:=aaf hy3;cases hy3
 have hD2:S2.D=none:=by simpa using h10
 obtain⟨hi2,hF2,rc2,t1,t2,t3,t4,t5⟩:=lp_get at2.inv h9;have hlen2:i<(alr E2 S2.H).length:=by rw [aph];exact hi2
 have ei2:(E2 i).1=(E i).1:=by rw [a2 i hi1,ei]
 have hag:Ag H.nx E E2:=a1.trans a2 n1;have hnx:H.nx<=S2.H.nx:=zaF n1 n2;rw [hD2];show RndQ C.P (E i).1 _ (exr x2) (fr ⟨q.2.1,[],some (some (E2 i).1)⟩ (rF E2 S2.F)) w3;rw [ei2];simp only at t5;rw [ei2]at t5;have fin:∀(j:Nat) (w':World),Hp w0 [] (((alr E2 S2.H).set i (lbusy (E i).1 rc2)).set i (akz (E i).1 j rc2)) w'->Inv w0 E2 (lpPut q3 false j S2.H i) w':=by
  intro j w' hp;rw [List.set_set]at hp;exact lp_put at2.inv h9 (b':=false) (j:=j) t1 t2 t3 t4 (by rw [ei2];rfl) hp
 cases x2 with
 |nm=>exact rnd_normal t5 i (List.getElem?_set_self hlen2) fun w' hp=>⟨E2,hag,hnx,fin 0 w' hp,trivial,rfl⟩
 |rt=>exact rnd_ret t5 i (List.getElem?_set_self hlen2) fun w' hp=>⟨E2,hag,hnx,fin 1 w' hp,trivial,rfl⟩
 |xt id=>exact rnd_exit t5 i (List.getElem?_set_self hlen2) fun w' hp=>⟨E2,hag,hnx,fin (id+2) w' hp,trivial,rfl⟩
end
open Go.Wk
open List renaming map_append -> zbe
open Nat renaming beq -> zam, ble -> zaq, blt -> zaL, le_refl -> zah, le_trans -> zaF
open Option renaming rec -> zan
section
variable {C : Cx} {Gp : World -> Prop} {m : M} {S S' : T} {w0 w : World} {E E' : En} {K : Ks} {H : Hs}
def updO(F:Nat->Value):Option Nat->Value->Nat->Value
 |none,_=>F
 |some d,V=>Wk.upd F d V
theorem dset_rF(E:En)(F:Tr SV)(d:Option Nat)(v:SV):rF E (dset F d v)=updO (rF E F) d (v.re E):=by
 cases d with
 |none=>rfl
 |some d=>exact rF_set E F d v
theorem at_dset(h:At C Gp m S w0 E w){H':Hs}{w':World}(ha:Ag S.H.nx E E')(hn:S.H.nx<=H'.nx)(hi:Inv w0 E' H' w')(d:Option Nat){v:SV}(hv:v.ok H'.nx):At C Gp m ⟨dset S.F d v,H',S.D⟩ w0 E' w':=by
 cases d with
 |none=>exact at_same h ha hn hi
 |some d=>exact at_set h ha hn hi d hv
theorem call_wd(hC:Cok C Gp)(hK:KsOk C Gp K)(h:At C Gp m S w0 E w){ops:Array Oper}{o:Oper}{f:Operand}{args:Array Operand}(hg:o.guard=none)(hc:isCall o.op=some (f,args))
  {v:SV} {H':Hs} (hv:callE K m S f args o.dst.isSome=some (v,H')):Wd C Gp m ops S ⟨dset S.F o.dst v,H',S.D⟩ w0 E w o:=by
 intro rest Q hk;obtain⟨ats,hop⟩:=gok_call hc;obtain⟨d,op,ty,pos,after,gd⟩:=o;simp only at hop hg;subst hop;subst hg;obtain⟨vs,h1,hv⟩:=aaa hv;obtain⟨g,h2,hv⟩:=aaa hv;obtain⟨h3,h4⟩:=evL_ok (h.sd hC) h1;obtain⟨h5,h6⟩:=aeg (h.sd hC) h2;have hargs:args.map (evn (arl E m S.D) (rF E S.F))=(vs.map (SV.re E)).toArray:=by
  rw [<-h3];exact Array.toList_inj.1 (by rw [Array.toList_map])
 have go:∀(V:Value) (w':World),Post S.H H' w0 E v V w'->Go.Wk.W C.P (arl E m S.D) ops Q rest (updO (rF E S.F) d V) w':=by
  rintro V w' ⟨E',g1,g2,g3,g4,rfl⟩
  have hq:Go.Wk.W C.P (arl E m S.D) ops Q rest (rF E' (dset S.F d v)) w':=hk E' w' g1 g2 (at_dset h g1 g2 g3 d g4);rw [dset_rF,rF_ext g1 h.fok]at hq;exact hq
 cases g with
 |fn k cs=>
  have hv':K.call k (lapp vs (ptrs cs)) S.H=some (v,H'):=hv;obtain⟨p1,p2⟩:=ptrs_ok (k:=S.H.nx) E (l:=cs) h6;rw [asd]at hv';obtain⟨hE,hcr⟩:=hK.call k _ _ _ _ hv' w0 E w h.gp h.inv (fun x hx=>by
   rcases List.mem_append.1 hx with hx|hx
   ·exact h4 x hx
   ·exact p2 x hx)
  have ha: #[]++args.map (evn (arl E m S.D) (rF E S.F))++(cs.map fun i=>Value.pointer (some ⟨(E i).1,0,none⟩)).toArray=((vs++ptrs cs).map (SV.re E)).toArray:=by
   rw [hargs,zbe,p1];simp
  cases d with
  |none=>exact w_call0 k _ _ _ hE h5 ha hcr fun V w' hp=>go V w' hp
  |some d=>exact aat k _ _ _ hE h5 ha hcr fun V w' hp=>go V w' hp
 |y i=>
  obtain⟨hds,hv'⟩:=aaf (show bi d.isSome (bi m.m.isSome (yieldE K.run i vs S.H) none) none=some (v,H')from hv);obtain⟨h7,hv'⟩:=aaf hv';have hy:=yield_ok hK.run hv' h.gp h.inv h4;obtain⟨mn,mm⟩:=m;cases mm with
  |none=>cases h7
  |some mm=>
   have ha: #[]++args.map (evn (arl E ⟨mn,some mm⟩ S.D) (rF E S.F))++ #[]=(vs.map (SV.re E)).toArray:=by rw [hargs];simp
   cases d with
   |some d=>exact w_yield (E i).1 _ _ h5 ha hy fun V w' hp=>go V w' hp
   |none=>cases hds
 |_=>cases hv
theorem asF_ok{x:SC}{k:Nat}(h:x.asF=some k):x=.fn k []:=by
 cases x with
 |fn f l=>
  obtain⟨h1,h2⟩:=aaf (show bi l.isEmpty (some f) none=some k from h);cases h2
  cases l with
  |nil=>rfl
  |cons a l=>cases h1
 |_=>cases h
theorem owns_ne(h:Inv w0 E H w){i j:Nat}{b b':HB}(hi:H.t.get i=some b)(hj:H.t.get j=some b')(hij:i≠j){x:Nat}(h1:(resOf E i b).own=some x):(resOf E j b').own≠some x:=by
 have hp:=h.hp.sep;have e1:=h.at hi;have e2:=h.at hj;have l1:=(List.getElem?_eq_some_iff.1 e1).1;have l2:=(List.getElem?_eq_some_iff.1 e2).1;rw [List.pairwise_iff_getElem]at hp;rw [List.getElem?_eq_getElem l1]at e1;rw [List.getElem?_eq_getElem l2]at e2;have e1:=Option.some.inj e1;have e2:=Option.some.inj e2;rcases Nat.lt_or_gt_of_ne hij with hlt|hlt
 ·have:=hp i j l1 l2 hlt x
  rw [e1,e2]at this;exact this h1
 ·have:=hp j i l2 l1 hlt x
  rw [e1,e2]at this;exact fun h2=>this h2 h1
theorem ovl_run(hC:Cok C Gp)(h:At C Gp m S w0 E w){o:Oper}{f:Operand}{args:Array Operand}{v:SV}(hc:isCall o.op=some (f,args))(hv:ovlE C m S f args=some v):
  (execOp (evn (arl E m S.D) (rF E S.F)) o).run C.P w=.ok (.value (v.re E)) w/\v.ok S.H.nx:=by
 have hsd:=h.sd hC;obtain⟨ats,hop⟩:=gok_call hc;unfold ovlE at hv;split at hv
 ·rename_i x y hxy;obtain rfl:=atb hxy;obtain⟨g,h1,hv⟩:=aaa hv;obtain⟨k,h2,hv⟩:=aaa hv;obtain⟨h3,hv⟩:=aaf hv;obtain⟨a,h4,hv⟩:=aaa hv;obtain⟨b,h5,hw⟩:=aaa hv;clear hv;obtain rfl:=asF_ok h2;have hf:evn (arl E m S.D) (rF E S.F) f=.func (.func k) #[] #[]:=(aeg hsd h1).1;have hx:=(aeg hsd h4).1;have hy:=(aeg hsd h5).1;obtain⟨fn,tS,tR,e,sz,f1,f2,f3,f4,f5,f6⟩:=hC.ov k h3;have hng:=hC.ng k fn f1;obtain⟨i,h6,hw1⟩:=aaa hw;clear hw;obtain⟨base,nn,c,rfl⟩:=asL_ok h6;have hz:∀w,(sizeOf e).run C.P w=.ok sz w:=fun w=>aue f6 w
  have key:(Extern.SlicesOverlaps.overlaps #[tS,tS] #[tR] #[(SC.sl i base nn c).re E,b.re E]).run C.P w=.ok (.bool false) w->v=.c (.b false)->(execOp (evn (arl E m S.D) (rF E S.F)) o).run C.P w=.ok (.value (v.re E)) w/\v.ok S.H.nx:=by
   rintro hr rfl
   refine⟨?_,trivial⟩
   unfold execOp;rw [hop];have hrf:∀t,(resolve (evn (arl E m S.D) (rF E S.F)) ⟨.value f, #[x,y],ats⟩ t)=Deferred.ofValue (.func (.func k) #[] #[]) #[(SC.sl i base nn c).re E,b.re E]:=by
    intro t;simp [resolve,hf,hx,hy]
   simp only [hrf];have hng' : ¬ fn.name = "runtime.NumGoroutine" := by simpa using hng
   generalize(SC.sl i base nn c).re E=X at hr
   generalize b.re E=Y at hr;have e1:SV.re E (.c (.b false))=.bool false:=rfl;simp [Deferred.ofValue,invoke,callFunc,f1,hng',f2,f3,f4,hr,e1]
  cases hb:b.asL with
  |none=>
   rw [hb]at hw1;obtain⟨h7,hw1⟩:=aaf (show bi b.isZ (some (SV.c (.b false))) none=some v from hw1);cases hw1
   cases b with
   |z j base' dd off=>
    refine key ?_ rfl
    show(Extern.SlicesOverlaps.overlaps #[tS,tS] #[tR] #[.slice (some ⟨(E i).1,base,none⟩) nn (c.re E i),.slice (some ⟨(E j).1,if(E j).2-off=0 then base' else base'+dd,none⟩) 0 ((E j).2-off)]).run C.P w=.ok (.bool false) w
    generalize(⟨(E i).1,base,none⟩:Addr)=a1
    generalize(⟨(E j).1,if(E j).2-off=0 then base' else base'+dd,none⟩:Addr)=b1
    change Sem.run C.P (α:=Value) (do
     let some t := (#[tS, tS] : Array TypeId)[0]? | stuck "slices.overlaps: no parameter types"
     let .slice elem <- underlying t | stuck "slices.overlaps: slice type expected"
     let size<-sizeOf elem
     match(some a1:Option Addr),(some b1:Option Addr)with
     |some a,some b=>
      if nn=0\/0=0\/size=0 then pure (Value.bool false)
      else if a.block !=b.block&&(<-frozen a)&&(<-frozen b)then unsupported .addressObserved
      else do
       if a.block !=b.block then do
        noView a;noView b
        if <- mayBeOne a b then return Value.bool ((<- choose (.extern "sameAddr.stringBytes" 2)) == 1)
       pure (Value.bool (a.block==b.block&&a.off<b.off+0*size&&b.off<a.off+nn*size))
     |_,_=>pure (Value.bool false)) w=_
    simp [run_underlying f5,hz]
   |_=>cases h7
  |some j=>
   rw [hb]at hw1;obtain⟨base',n',c',rfl⟩:=asL_ok hb;have hw1:bi (zam i j) none (ob (S.H.t.get i) fun p=>ob p.asC fun q=>bi (Mo.rec true (fun _ _=>false) false false q.2.1) (ob (S.H.t.get j) fun p'=>ob p'.asC fun q'=>bi (zaq 1 (arb q'.2.2)) (some (SV.c (.b false))) none) none)=some v:=hw1;rw [abu]at hw1;split at hw1
   ·cases hw1
   rename_i hij;rw [aao]at hij;obtain⟨p,h8,hw1⟩:=aaa hw1;obtain⟨q,h9,hw1⟩:=aaa hw1;obtain⟨h10,hw1⟩:=aaf hw1;obtain⟨p',h11,hw1⟩:=aaa hw1;obtain⟨q',h12,hw1⟩:=aaa hw1;obtain⟨h13,hw1⟩:=aaf hw1;have hfin:v=.c (.b false):=(Option.some.inj hw1).symm;rw [aam,acj]at h13;obtain⟨t1,md,xs⟩:=q;obtain⟨t2,md2,ys⟩:=q';rw [hbC_ok h9]at h8;rw [hbC_ok h12]at h11;cases md with
   |ex=>
    obtain⟨cur,ta,fz,c1,c2,c3,c4,c5⟩:=h.inv.cells h8;obtain⟨cur2,tb,fz2,d1,d2,d3,d4,d5⟩:=h.inv.cells h11;have hne:(E i).1≠(E j).1:=fun e=>owns_ne h.inv h8 h11 hij (x:=(E i).1) rfl (by show some (E j).1=_;rw [e])
    have hfz:fz=(0,0):=c5.2;subst hfz;refine key ?_ hfin;have h13':1<=ys.length:=h13;have d3':ys.length<=cur2.size:=d3;exact Lib.run_overlaps_apart w tS tR e f5 sz hz ⟨(E i).1,base,none⟩ ⟨(E j).1,base',none⟩ nn (c.re E i) n' (c'.re E j) hne ta tb cur.size cur2.size (by simp [World.shape?,c1]) (by simp [World.shape?,d1]) (by omega) (by simp [World.frozen?,c1]) (by simp [World.frozen?,c1])
   |_=>cases h10
 ·cases hv
theorem op1_wd(hC:Cok C Gp)(hK:KsOk C Gp K)(h:At C Gp m S w0 E w){ops:Array Oper}{o:Oper}(hg:o.guard=none)(hv:op1 C K m S o=some S'):Wd C Gp m ops S S' w0 E w o:=by
 unfold op1 at hv;cases hc:isCall o.op with
 |none=>rw [hc]at hv;exact opO_wd hC h hg hv
 |some c=>
  rw [hc]at hv;cases ho:ovlE C m S c.1 c.2 with
  |none=>
   have hv:(zan (ob (callE K m S c.1 c.2 o.dst.isSome) fun r=>some (⟨dset S.F o.dst r.1,r.2,S.D⟩:T)) (fun v=>ob o.dst fun d=>some ⟨S.F.set d v,S.H,S.D⟩) (ovlE C m S c.1 c.2):Option T)=some S':=hv;rw [ho]at hv;obtain⟨⟨v,H'⟩,h1,hv⟩:=aaa hv;cases hv
   exact call_wd hC hK h hg hc h1
  |some v=>
   have hv:(zan (ob (callE K m S c.1 c.2 o.dst.isSome) fun r=>some (⟨dset S.F o.dst r.1,r.2,S.D⟩:T)) (fun v=>ob o.dst fun d=>some ⟨S.F.set d v,S.H,S.D⟩) (ovlE C m S c.1 c.2):Option T)=some S':=hv;rw [ho]at hv;obtain⟨d,h2,hv⟩:=aaa hv;cases hv
   intro rest Q hk;obtain⟨f,args⟩:=c;obtain⟨g5,g6⟩:=ovl_run hC h hc ho;refine acn hg h2 g5 ?_;have hq:Go.Wk.W C.P (arl E m S.D) ops Q rest (rF E (S.F.set d v)) w:=hk E w (Ag.refl _ _) (zah _) (at_set h (Ag.refl _ _) (zah _) h.inv d g6);rw [rF_set]at hq;exact hq
theorem op1_nog(o:Oper)(g:Option (Nat×Bool)):op1 C K m S {o with guard:=g}=op1 C K m S o:=by
 obtain⟨d,op,ty,pos,after,gd⟩:=o;unfold op1 opO;cases op<;>rfl
theorem gval_ok{v:SV}{b r:Bool}(h:gval v b=some r)(E:En):(v.re E=.bool b/\r=true)\/(v.re E=.bool (!b)/\r=false)\/(v=.u/\r=false):=by
 cases v with
 |c x=>
  obtain⟨t,h1,h⟩:=aaa (show(ob x.asB fun t=>some (bi t b (inot b)))=some r from h);cases h
  obtain rfl:=asB_ok h1;cases t<;>cases b<;>simp [bi,inot,SV.re,SC.re]
 |u=>cases h;exact .inr (.inr ⟨rfl,rfl⟩)
 |a l=>cases h
 |t l=>cases h
theorem opG_wd(hC:Cok C Gp)(hK:KsOk C Gp K)(h:At C Gp m S w0 E w){ops:Array Oper}{o:Oper}(hv:opG C K m ops S o=some S'):Wd C Gp m ops S S' w0 E w o:=by
 obtain⟨dst,op,ty,pos,after,gd⟩:=o;unfold opG at hv;cases gd with
 |none=>exact op1_wd hC hK h rfl hv
 |some q=>
  obtain⟨g,b⟩:=q;obtain⟨dg,h1,hv⟩:=aaa hv;obtain⟨d,h2,hv⟩:=aaa hv;obtain⟨h3,hv⟩:=aaf hv;obtain⟨r,h4,hv⟩:=aaa hv;have h2':dst=some d:=h2;subst h2';have e1:oget (S.F.get dg)=tv S.F dg:=tv_rec S.F dg;rw [e1]at h4;have hblt:zaL dg (arl E m S.D).n=true:=h3;intro rest Q hk;rcases gval_ok h4 E with⟨hb,rfl⟩|⟨hb,rfl⟩|⟨hb,rfl⟩
  ·refine w_gyes dg h1 hblt hb ?_;have hv':op1 C K m S (⟨some d,op,ty,pos,after,none⟩:Oper)=some S':=by
    rw [<-op1_nog _ (some (g,b))];exact hv
   exact op1_wd hC hK h rfl hv' rest Q hk
  ·cases hv
   refine w_gno dg h1 hblt hb ?_;have hq:Go.Wk.W C.P (arl E m S.D) ops Q rest (rF E (S.F.set d .u)) w:=hk E w (Ag.refl _ _) (zah _) (at_set h (Ag.refl _ _) (zah _) h.inv d (v:=.u) trivial);rw [rF_set]at hq;exact hq
  ·cases hv
   have hu:rF E S.F dg=undef:=by
    show(tv S.F dg).re E=_
    rw [hb];rfl
   refine w_gun dg h1 hblt hu ?_;have hq:Go.Wk.W C.P (arl E m S.D) ops Q rest (rF E (S.F.set d .u)) w:=hk E w (Ag.refl _ _) (zah _) (at_set h (Ag.refl _ _) (zah _) h.inv d (v:=.u) trivial);rw [rF_set]at hq;exact hq
theorem opG_D{ops:Array Oper}{o:Oper}(hv:opG C K m ops S o=some S'):S'.D=S.D:=by
 have h1:∀S',op1 C K m S o=some S'->S'.D=S.D:=by
  intro S' hv;unfold op1 at hv;cases hc:isCall o.op with
  |none=>
   rw [hc]at hv;obtain⟨r,_,hv⟩:=aaa (show opO C m S o=some S' from hv);obtain⟨r1,H'⟩:=r;cases r1 with
   |none=>
    obtain⟨_,hv⟩:=aaf (show bi o.dst.isNone (some (⟨S.F,H',S.D⟩:T)) none=some S' from hv);cases hv;rfl
   |some v=>
    have hv2:(zan (motive:=fun _=>Option T) (some ⟨S.F,H',S.D⟩) (fun d=>some ⟨S.F.set d v,H',S.D⟩) o.dst)=some S':=hv;clear hv;cases hd:o.dst with
    |none=>rw [hd]at hv2;rw [<-Option.some.inj hv2]
    |some d=>rw [hd]at hv2;rw [<-Option.some.inj hv2]
  |some c=>
   rw [hc]at hv;have hv2:(zan (ob (callE K m S c.1 c.2 o.dst.isSome) fun r=>some (⟨dset S.F o.dst r.1,r.2,S.D⟩:T)) (fun v=>ob o.dst fun d=>some ⟨S.F.set d v,S.H,S.D⟩) (ovlE C m S c.1 c.2):Option T)=some S':=hv;clear hv;cases ho:ovlE C m S c.1 c.2 with
   |none=>
    rw [ho]at hv2;obtain⟨_,_,hv⟩:=aaa hv2;cases hv;rfl
   |some v=>
    rw [ho]at hv2;obtain⟨_,_,hv⟩:=aaa hv2;cases hv;rfl
 unfold opG at hv;cases hg:o.guard with
 |none=>rw [hg]at hv;exact h1 S' hv
 |some q=>
  rw [hg]at hv;obtain⟨_,_,hv⟩:=aaa hv;obtain⟨_,_,hv⟩:=aaa hv;obtain⟨_,hv⟩:=aaf hv;obtain⟨r,_,hv⟩:=aaa hv;cases r with
  |true=>exact h1 S' hv
  |false=>cases hv;rfl
theorem opsE_ok(hC:Cok C Gp)(hK:KsOk C Gp K){ops:Array Oper}:∀(l:List Oper) (S S':T) (E:En) (w:World),At C Gp m S w0 E w->opsE C K m ops l S=some S'->∀Q:Exit->Act->World->Prop,
  Then C Gp m S S' w0 E (fun E' w'=>Q .normal (fr (arl E' m S'.D) (rF E' S'.F)) w')->Go.Wk.W C.P (arl E m S.D) ops Q l (rF E S.F) w
 |[],S,S',E,w,h,hv,Q,hk=>by
  have e:S=S':=Option.some.inj hv;subst e;exact aso (hk E w (Ag.refl _ _) (zah _) h)
 |o::l,S,S',E,w,h,hv,Q,hk=>by
  obtain⟨S1,h1,hv⟩:=aaa (show ob (opG C K m ops S o) (opsE C K m ops l)=some S' from hv);refine opG_wd hC hK h h1 l Q ?_;intro E1 w1 a1 n1 at1;have hd:=opG_D h1
  have:=opsE_ok hC hK l S1 S' E1 w1 at1 hv Q (fun E2 w2 a2 n2 at2=>hk E2 w2 (a1.trans a2 n1) (zaF n1 n2) at2)
  rw [hd,mdOf_ext a1 h.m h.d]at this;exact this
theorem np_seqA{P:Program}{n:Md}{y:Code}{Q:Exit->Act->World->Prop}(h:NoP Q):NoP (SeqQ P n y Q):=by unfold SeqQ;exact h
theorem onX_some{r:RT}{nm rt:T->RT}{xt:Nat->T->RT}{v:Ex×T}(h:onX r nm rt xt=some v):∃e S,r=some (e,S)/\((e=.nm/\nm S=some v)\/(e=.rt/\rt S=some v)\/∃id,e=.xt id/\xt id S=some v):=by
 cases r with
 |none=>cases h
 |some p=>
  obtain⟨e,S⟩:=p;refine⟨e,S,rfl, ?_⟩
  cases e with
  |nm=>exact .inl ⟨rfl,h⟩
  |rt=>exact .inr (.inl ⟨rfl,h⟩)
  |xt id=>exact .inr (.inr ⟨id,rfl,h⟩)
theorem ary{S1:T}{Q:En->World->Prop}(hk:Then C Gp m S S' w0 E Q){E1:En}(a1:Ag S.H.nx E E1)(n1:S.H.nx<=S1.H.nx):Then C Gp m S1 S' w0 E1 Q:=
 fun E2 w2 a2 n2 at2=>hk E2 w2 (a1.trans a2 n1) (zaF n1 n2) at2
theorem run_skip{c:Code}(hc:c=.skip\/∃l,c=.label l):asp C Gp (fun m S=>eSkip K m S) c:=by
 intro m S e S' hv w0 E w Q h hq hk;cases hv
 have:=hk E w (Ag.refl _ _) (zah _) h
 rcases hc with rfl|⟨l,rfl⟩
 ·exact c_skip this
 ·exact c_label this
theorem run_exit{id:Nat}:asp C Gp (fun m S=>eExit id K m S) (.exit id):=by
 intro m S e S' hv w0 E w Q h hq hk;cases hv
 exact abp (hk E w (Ag.refl _ _) (zah _) h)
theorem run_ret:asp C Gp (fun m S=>eRet K m S) .ret:=by
 intro m S e S' hv w0 E w Q h hq hk;cases hv
 exact c_ret (hk E w (Ag.refl _ _) (zah _) h)
theorem run_cond{c:Operand}{x y:Code}{a b:Ef}(hC:Cok C Gp)(ha:asp C Gp (fun m S=>a K m S) x)(hb:asp C Gp (fun m S=>b K m S) y):asp C Gp (fun m S=>eCond c x y a b K m S) (.cond c x y):=by
 intro m S e S' hv w0 E w Q h hq hk;obtain⟨v,h1,hv⟩:=aaa hv;obtain⟨t,h2,hv⟩:=aaa hv;obtain rfl:=asB_ok h2;have hx:evn (arl E m S.D) (rF E S.F) c=.bool t:=(aeg (h.sd hC) h1).1;cases t with
 |true=>exact c_true hx (ha m S e S' hv w0 E w Q h hq hk)
 |false=>exact c_false hx (hb m S e S' hv w0 E w Q h hq hk)
theorem run_block{id:Nat}{x:Code}{a:Ef}(ha:asp C Gp (fun m S=>a K m S) x):asp C Gp (fun m S=>eBlock id x a K m S) (.block id x):=by
 intro m S e S' hv w0 E w Q h hq hk;obtain⟨e1,S1,h1,h2⟩:=onX_some hv;refine c_block (ha m S e1 S1 h1 w0 E w _ h (afm hq) ?_);intro E1 w1 a1 n1 at1;rcases h2 with⟨rfl,h2⟩|⟨rfl,h2⟩|⟨i,rfl,h2⟩
 ·cases h2;exact b_normal (hk E1 w1 a1 n1 at1)
 ·cases h2;exact b_ret (hk E1 w1 a1 n1 at1)
 ·rw [abu]at h2;split at h2
  ·rename_i hi;rw [aao]at hi;subst hi;cases h2
   exact abr (hk E1 w1 a1 n1 at1)
  ·rename_i hi;cases h2
   refine b_past ?_ (hk E1 w1 a1 n1 at1);cases hx:zam i id with
   |false=>rfl
   |true=>exact absurd hx hi
theorem run_scope{x:Code}{a:Ef}(ha:asp C Gp (fun m S=>a K m S) x):asp C Gp (fun m S=>eScope x a K m S) (.scope x):=by
 intro m S e S' hv w0 E w Q h hq hk;obtain⟨h1,hv⟩:=aaf hv;obtain⟨mn,mm⟩:=m;cases mm with
 |some _=>cases h1
 |none=>
  refine c_scope (ha _ S e S' hv w0 E w _ h (aul hq) ?_);intro E1 w1 a1 n1 at1
  have:=hk E1 w1 a1 n1 at1
  cases e with
  |nm=>exact n_normal this
  |rt=>exact n_ret this
  |xt id=>exact n_exit this
theorem run_seq{x y:Code}{a b:Ef}(ha:asp C Gp (fun m S=>a K m S) x)(hb:asp C Gp (fun m S=>b K m S) y):asp C Gp (fun m S=>eSeq x y a b K m S) (.seq x y):=by
 intro m S e S' hv w0 E w Q h hq hk;obtain⟨e1,S1,h1,h2⟩:=onX_some hv;refine atf (ha m S e1 S1 h1 w0 E w _ h (np_seqA hq) ?_);intro E1 w1 a1 n1 at1;rcases h2 with⟨rfl,h2⟩|⟨rfl,h2⟩|⟨i,rfl,h2⟩
 ·have:=hb m S1 e S' h2 w0 E1 w1 Q at1 hq (ary hk a1 n1)
  have hr:ro E1 m=ro E m:=ro_ext a1 h.m;unfold arl at this⊢;rw [hr]at this⊢;exact aow this
 ·cases h2;exact s_ret (hk E1 w1 a1 n1 at1)
 ·cases h2;exact abo (hk E1 w1 a1 n1 at1)
theorem run_region{id:Nat}{ops:Array Oper}{d:Bool}(hC:Cok C Gp)(hK:KsOk C Gp K) (hd:∀m S S',drawE C K m ops S=some S'->∀w0 E w (Q:Exit->Act->World->Prop),At C Gp m S w0 E w->NoP Q->
  Then C Gp m S S' w0 E (fun E' w'=>Q .normal (fr (arl E' m S'.D) (rF E' S'.F)) w')->Go.Wk.C C.P (arl E m S.D) Q (.region id ops true) (rF E S.F) w):asp C Gp (fun m S=>eRegion C id ops d K m S) (.region id ops d):=by
 intro m S e S' hv w0 E w Q h hq hk;cases d with
 |true=>
  obtain⟨S1,h1,hv⟩:=aaa (show(ob (drawE C K m ops S) kNm)=some (e,S')from hv);cases hv
  exact hd m S S' h1 w0 E w Q h hq hk
 |false=>
  obtain⟨S1,h1,hv⟩:=aaa (show(ob (opsE C K m ops ops.toList S) kNm)=some (e,S')from hv);cases hv
  obtain⟨l⟩:=ops;exact aie (opsE_ok hC hK l S S' E w h h1 Q hk)
end
open Go.Wk
open Go.Value renaming func -> zaW
open List renaming map_append -> zbe, map_congr_left -> zbj, map_cons -> zaC, mem_cons_self -> zaI
open Nat renaming beq -> zam, le_trans -> zaF
def LB(P:Program)(n:Md)(Q:Exit->Act->World->Prop)(c:Code)(F:Nat->Value)(w:World):Prop:=
 match n.ro with
 |none=>∀(b:Frame) (k:List Item) (cs:List Frame),∃e a' w',Q e a' w'/\Arrives P (lone (b.at (fr n F) (.code c::.inLoop c::k)) cs w) b k cs e a' w'
 |some x=>∀(b:Frame) (k:List Item) (cs:List Frame),b.roundOf=(fen x).round->(fen x).fn b.fn->(fen x).room (cs.length+1+0)->
   ∃e a' w',Q e a' w'/\ArrivesIn (Machine.fenced P (fen x)) P (lone (b.atR (fr n F) (.code c::.inLoop c::k)) cs w) b k cs e a' w'
theorem lb_loop{P:Program}{n:Md}{Q:Exit->Act->World->Prop}{c:Code}{F:Nat->Value}{w:World}(h:LB P n Q c F w):Go.Wk.C P n Q (.loop c) F w:=by
 obtain⟨nn,D,ro⟩:=n;cases ro with
 |none=>
  unfold Go.Wk.C CC;intro b kk cs;obtain⟨e,a',w',hq,harr⟩:=h b kk cs;exact⟨e,a',w',hq,.of_steps (.one step_loop) harr⟩
 |some x=>
  unfold Go.Wk.C CC;intro b kk cs hro hb hr;obtain⟨e,a',w',hq,harr⟩:=h b kk cs hro hb hr;exact⟨e,a',w',hq,.of_steps (.one (fenced_calm hb hr rfl) stepR_loop) harr⟩
theorem lb_step{P:Program}{n:Md}{Q:Exit->Act->World->Prop}{c:Code}{F:Nat->Value}{w:World}
  (h:Go.Wk.C P n (Exit.then (fun a' w'=>∃F',a'=fr n F'/\LB P n Q c F' w') Q) c F w):LB P n Q c F w:=by
 obtain⟨nn,D,ro⟩:=n;cases ro with
 |none=>
  unfold Go.Wk.C CC at h;intro b kk cs;obtain⟨e,a₁,w₁,hq,harr⟩:=h b (.inLoop c::kk) cs;cases e with
  |normal=>
   obtain⟨F',rfl,hlb⟩:=hq;obtain⟨e₂,a₂,w₂,hq₂,harr₂⟩:=hlb b kk cs;exact⟨e₂,a₂,w₂,hq₂,.of_steps (Steps.trans harr (.one step_inLoop)) harr₂⟩
  |exit id=>exact⟨_,a₁,w₁,hq,.pass (x:=.inLoop c) rfl (fun _ _=>.inl (by simp)) harr⟩
  |goto l=>exact⟨_,a₁,w₁,hq,.pass (x:=.inLoop c) rfl (fun _ _=>.inl (by simp)) harr⟩
  |ret=>exact⟨_,a₁,w₁,hq,.pass (x:=.inLoop c) rfl (fun _ _=>.inl (by simp)) harr⟩
  |panic ch=>exact⟨_,a₁,w₁,hq,.pass (x:=.inLoop c) rfl (fun _ _=>.inl (by simp)) harr⟩
  |outgrown=>exact⟨_,a₁,w₁,hq,.pass (x:=.inLoop c) rfl (fun _ _=>.inl (by simp)) harr⟩
 |some x=>
  unfold Go.Wk.C CC at h;intro b kk cs hro hb hr;obtain⟨e,a₁,w₁,hq,harr⟩:=h b (.inLoop c::kk) cs hro hb hr;cases e with
  |normal=>
   obtain⟨F',rfl,hlb⟩:=hq;obtain⟨e₂,a₂,w₂,hq₂,harr₂⟩:=hlb b kk cs hro hb hr;exact⟨e₂,a₂,w₂,hq₂,.of_steps (StepsIn.trans harr (.one (fenced_calm hb hr rfl) stepR_inLoop)) harr₂⟩
  |exit id=>exact⟨_,a₁,w₁,hq,.pass (x:=.inLoop c) rfl (fun _ _=>.inl (by simp)) harr⟩
  |goto l=>exact⟨_,a₁,w₁,hq,.pass (x:=.inLoop c) rfl (fun _ _=>.inl (by simp)) harr⟩
  |ret=>exact⟨_,a₁,w₁,hq,.pass (x:=.inLoop c) rfl (fun _ _=>.inl (by simp)) harr⟩
  |panic ch=>exact⟨_,a₁,w₁,hq,.pass (x:=.inLoop c) rfl (fun _ _=>.inl (by simp)) harr⟩
  |outgrown=>exact⟨_,a₁,w₁,hq,.pass (x:=.inLoop c) rfl (fun _ _=>.inl (by simp)) harr⟩
section
variable {C : Cx} {Gp : World -> Prop} {m : M} {S S' : T} {w0 w : World} {E E' : En} {K : Ks} {H : Hs}
theorem oeq_ok{a b:Option Nat}(h:oeq a b=true):a=b:=by
 cases a with
 |none=>cases b with
  |none=>rfl
  |some y=>cases h
 |some x=>cases b with
  |none=>cases h
  |some y=>
   have h':zam x y=true:=h;rw [aao]at h';rw [h']
theorem rounds_ok{x:Code}{a:Ef}(ha:asp C Gp (fun m S=>a K m S) x):∀(f:Nat) (m:M) (S:T) (e:Ex) (S':T),rounds a f K m S=some (e,S')->∀w0 E w Q,At C Gp m S w0 E w->NoP Q->
  Then C Gp m S S' w0 E (fun E' w'=>Q (exr e) (fr (arl E' m S'.D) (rF E' S'.F)) w')->LB C.P (arl E m S.D) Q x (rF E S.F) w
 |0,m,S,e,S',hv,w0,E,w,Q,h,hq,hk=>by cases hv
 |f+1,m,S,e,S',hv,w0,E,w,Q,h,hq,hk=>by
  obtain⟨e1,S1,h1,h2⟩:=onX_some (show onX (a K m S) (fun S1=>bi (oeq S.D S1.D) (rounds a f K m S1) none) kRt kXt=some (e,S')from hv);refine lb_step (ha m S e1 S1 h1 w0 E w _ h (ans hq) ?_);intro E1 w1 a1 n1 at1;rcases h2 with⟨rfl,h2⟩|⟨rfl,h2⟩|⟨i,rfl,h2⟩
  ·obtain⟨h3,h2⟩:=aaf h2;have hD:=oeq_ok h3;have hm:arl E1 m S1.D=arl E m S.D:=by rw [<-hD];exact mdOf_ext a1 h.m h.d
   have:=rounds_ok ha f m S1 e S' h2 w0 E1 w1 Q at1 hq (ary hk a1 n1)
   rw [hm]at this⊢;exact q_loop ⟨_,rfl,this⟩
  ·cases h2;exact aau (hk E1 w1 a1 n1 at1)
  ·cases h2;exact abv (hk E1 w1 a1 n1 at1)
theorem run_loop{x:Code}{a:Ef}(ha:asp C Gp (fun m S=>a K m S) x):asp C Gp (fun m S=>eLoop x a K m S) (.loop x):=
 fun m S e S' hv w0 E w Q h hq hk=>lb_loop (rounds_ok ha FU m S e S' hv w0 E w Q h hq hk)
theorem c_rangeFunc'{P:Program}{k:Nat}{Q:Exit->Act->World->Prop}{F:Nat->Value}{L:List Res}{g:Operand}{ps:Array Tmp}{assign body:Code}(hH:Hp w0 [] L w)(f:Nat)(cap:List Value)(hg:evn ⟨k,[],some none⟩ F g=.func (.func f) #[] cap.toArray)
  (hc:∀rc:Loop,rc.assign=assign->rc.body=body->rc.params=ps->rc.tmps=(fr ⟨k,[],some none⟩ F).tmps->∀w2,Hp w0 [] (akz (w.heap.size+1) 0 rc::dfr w.heap.size::L) w2->
   Enters P f/\CR P f (.func (.yield (w.heap.size+1)) #[] #[]::cap) w2 fun _ w3=>∃j rc' L3,Hp w0 [] (akz (w.heap.size+1) j rc'::L3) w3/\∀w4,Hp w0 [] L3 w4->RgQ P k w.heap.size Q F j w4):
  Go.Wk.C P ⟨k,[],some none⟩ Q (.rangeFunc g ps assign body) F w:=by
 unfold Go.Wk.C CC;refine wpIn_rangeFunc fun fn _=> ?_
 have hH1:=hH.allocR (.deferred (some [])) (dfr w.heap.size) rfl rfl;have hH2:=hH1.allocR (.loop {state:=.ready,pending:=none,fn:=fn,tmps:=(fr ⟨k,[],some none⟩ F).tmps,params:=ps,assign:=assign,body:=body,defers:=w.heap.size}) (akz (w.heap.size+1) 0 {state:=.ready,pending:=none,fn:=fn,tmps:=(fr ⟨k,[],some none⟩ F).tmps,params:=ps,assign:=assign,body:=body,defers:=w.heap.size}) (by simp [akz]) rfl;obtain⟨hE,hc⟩:=hc _ rfl rfl rfl rfl _ hH2;refine⟨w.heap.size+1,[Go.Wk.mark w.heap.size],((w.alloc (.deferred (some []))).alloc (.loop {state:=.ready,pending:=none,fn:=fn,tmps:=(fr ⟨k,[],some none⟩ F).tmps,params:=ps,assign:=assign,body:=body,defers:=w.heap.size})),{target:=.fn (.func f) cap.toArray,args:= #[]++ #[.func (.yield (w.heap.size+1)) #[] #[]]},((w.alloc (.deferred (some []))).alloc (.loop {state:=.ready,pending:=none,fn:=fn,tmps:=(fr ⟨k,[],some none⟩ F).tmps,params:=ps,assign:=assign,body:=body,defers:=w.heap.size})),f,(zaW (.yield (w.heap.size+1)) #[] #[]::cap).toArray,((w.alloc (.deferred (some []))).alloc (.loop {state:=.ready,pending:=none,fn:=fn,tmps:=(fr ⟨k,[],some none⟩ F).tmps,params:=ps,assign:=assign,body:=body,defers:=w.heap.size})),run_enterLoop_outer fn _ _ _ _, ?_,fun _ _=>trivial, ?_,fun h=>absurd h Bool.false_ne_true, ?_⟩
 ·rw [ajv];simp only [resolve,rangeCall,hg,Deferred.ofValue];simp
  rfl
 ·have e:(#[]++ #[zaW (.yield (w.heap.size+1)) #[] #[]]:Array Value)++cap.toArray=(zaW (.yield (w.heap.size+1)) #[] #[]::cap).toArray:=by simp
  rw [<-e];exact hE.run _ _
 ·refine(callsIn_wide (n:=0)).2 (Calls.mono hc ?_)
  rintro e w3 ⟨v,rfl,j,rc',L3,h3,h4⟩
  have hl:w3.heap[w.heap.size+1]? =_:=(h3.res _ (zaI)).1;have hb:lst j≠.busy:=by unfold lst;split<;>simp
  refine⟨jmp j,_,run_endLoop hl hb, ?_⟩
  have h5:=(h3.put 0 (w.heap.size+1) _ (gone (w.heap.size+1)) (.loop {({rc' with state:=lst j,pending:=jmp j}:Loop)with state:=.exhausted,pending:=jmp j}) rfl rfl rfl trivial).tail;have h6:=h4 _ h5;unfold RgQ at h6
  revert h6
  generalize jmp j=pd;intro h6;cases pd with
  |none=>exact h6
  |some c=>unfold Go.Wk.C CC at h6;exact h6
theorem run_range{f:Operand}{ps:Array Nat}{asg body:Code}{xa xb:Ef}(hC:Cok C Gp)(hK:KsOk C Gp K):asp C Gp (fun m S=>eRange f ps asg body xa xb K m S) (.rangeFunc f ps asg body):=by
 intro m S e S' hv w0 E w Q h hq hk;obtain⟨mm,h1,hv⟩:=aaa hv;obtain⟨h2,hv⟩:=aaf hv;obtain⟨h3,hv⟩:=aaf hv;obtain⟨g,h4,hv⟩:=aaa hv;obtain⟨hf,hfok⟩:=aeg (h.sd hC) h4;obtain⟨mn,mo⟩:=m;have hmm:mo=some none:=by
  have h1':mo=some mm:=h1;cases mm with
  |none=>exact h1'
  |some l=>cases h2
 subst hmm;have hD:S.D=none:=by simpa using h3
 cases g with
 |fn k cs=>
  obtain⟨⟨u,H2⟩,h5,hv⟩:=aaa (show(ob (K.call k (.c (.y (S.H.nx+1))::ptrs cs) ((S.H.add .df).add (.lp false 0 mn ps.toList asg body S.F))) fun r=>ob (lpAt r.2 (S.H.nx+1) false) fun q=>
   (fun S':T=>(Nat.rec (some (.nm,S')) (fun j _=>Nat.rec (some (.rt,S')) (fun id _=>some (.xt id,S')) j) q.1:RT)) ⟨S.F,r.2.upd (S.H.nx+1) .gn,some S.H.nx⟩)=some (e,S')from hv)
  obtain⟨q,h6,hv⟩:=aaa hv;have hmd:arl E ⟨mn,some none⟩ S.D=⟨mn,[],some none⟩:=by rw [hD];rfl
  rw [hmd]at hf⊢;have hf':evn ⟨mn,[],some none⟩ (rF E S.F) f=.func (.func k) #[] (cs.map fun i=>Value.pointer (some ⟨(E i).1,0,none⟩)).toArray:=hf;refine c_rangeFunc' h.inv.hp k _ hf' ?_;intro rc r1 r2 r3 r4 w2 hp2
  let E1:=eat E S.H.nx (w.heap.size,0)
  let E2:=eat E1 (S.H.nx+1) (w.heap.size+1,0)
  have a1:Ag S.H.nx E E1:=apk _ _ _;have a2:Ag (S.H.nx+1) E1 E2:=apk _ _ _;have a12:Ag S.H.nx E E2:=a1.trans a2 (by omega);have inv1:Inv w0 E1 (S.H.add .df) w2:=by
   refine h.inv.add a1 trivial ?_;have e1:resOf E1 S.H.nx .df=dfr w.heap.size:=by simp only [resOf,E1,adb]
   rw [e1];exact hp2.tail
  have inv2:Inv w0 E2 ((S.H.add .df).add (.lp false 0 mn ps.toList asg body S.F)) w2:=by
   refine inv1.add a2 (Fok.up (by show S.H.nx<=S.H.nx+1+1;omega) h.fok) ?_;have e1:resOf E2 (S.H.nx+1) (.lp false 0 mn ps.toList asg body S.F)=lpres (w.heap.size+1) false 0 mn ps.toList asg body (rF E S.F):=by
    simp only [resOf];rw [rF_ext a12 h.fok];simp only [E2,adb]
   show Hp w0 [] (resOf E2 (S.H.nx+1) (.lp false 0 mn ps.toList asg body S.F)::alr E1 (S.H.add .df)) w2;rw [e1];have e2:alr E1 (S.H.add .df)=alr E S.H++[dfr w.heap.size]:=by
    show(List.range (S.H.nx+1)).map _=_
    rw [List.range_succ,zbe];congr 1
    ·refine zbj fun i hi=> ?_
     have hi:i<S.H.nx:=List.mem_range.1 hi;rw [hat_add,if_neg (by omega),resOf_ext a1 hi (h.inv.hatok i)]
    ·simp [hat_add,resOf,E1,adb]
   rw [e2];have hp3:=hp_weak (k:=0) (r':=lpres (w.heap.size+1) false 0 mn ps.toList asg body (rF E S.F)) hp2 rfl rfl ⟨rc,r1,r2,by rw [r3],r4,(hp2.res _ zaI).1⟩;refine hp3.perm ?_;refine List.Perm.cons _ ?_;exact(List.perm_append_singleton _ _).symm
  obtain⟨p1,p2⟩:=ptrs_ok (k:=S.H.nx) E2 (l:=cs) hfok;obtain⟨hE,hcr⟩:=hK.call k _ _ _ _ h5 w0 E2 w2 h.gp inv2 (fun x hx=>by
   rcases List.mem_cons.1 hx with rfl|hx
   ·show S.H.nx+1<S.H.nx+1+1;omega
   ·exact SV.up (by show S.H.nx<=S.H.nx+1+1;omega) (p2 x hx))
  refine⟨hE, ?_⟩
  have hargs:(SV.c (.y (S.H.nx+1))::ptrs cs).map (SV.re E2)=.func (.yield (w.heap.size+1)) #[] #[]::cs.map fun i=>Value.pointer (some ⟨(E i).1,0,none⟩):=by
   rw [zaC,p1];congr 1
   ·simp only [SV.re,SC.re,E2,adb]
   ·exact zbj fun i hi=>by rw [a12 i (hfok i hi)]
  rw [hargs]at hcr;refine CR.mono hcr ?_;rintro V w3 ⟨E3,g1,g2,g3,g4,rfl⟩
  obtain⟨hi3,hF3,rc3,t1,t2,t3,t4,t5⟩:=lp_get g3 h6;have ei:(E3 (S.H.nx+1)).1=w.heap.size+1:=by
   rw [g1 (S.H.nx+1) (by show S.H.nx+1<S.H.nx+1+1;omega)];simp only [E2,adb]
  have e0:(E3 S.H.nx).1=w.heap.size:=by
   rw [g1 S.H.nx (by show S.H.nx<S.H.nx+1+1;omega)];rw [a2 S.H.nx (by omega)];simp only [E1,adb]
  have a3:Ag S.H.nx E E3:=a12.trans g1 (by show S.H.nx<=S.H.nx+1+1;omega);have n3:S.H.nx<=H2.nx:=zaF (by show S.H.nx<=S.H.nx+1+1;omega) g2;simp only at t5;rw [ei]at t5;have hlen3:S.H.nx+1<(alr E3 H2).length:=by rw [aph];exact hi3
  have hp4:=t5.front (S.H.nx+1) _ (List.getElem?_set_self hlen3);refine⟨q.1,rc3,_,hp4, ?_⟩
  intro w4 hp5;have inv4:Inv w0 E3 (H2.upd (S.H.nx+1) .gn) w4:=by
   refine g3.upd hi3 trivial ?_;have e5:((alr E3 H2).set (S.H.nx+1) (akz (w.heap.size+1) q.1 rc3)).eraseIdx (S.H.nx+1)=(alr E3 H2).eraseIdx (S.H.nx+1):=by
    rw [List.eraseIdx_set_eq]
   rw [e5]at hp5;exact Hp.perm (hp_gn hp5) (set_perm _ _ _ hlen3).symm
  have hd4:∀r,some S.H.nx=some r->r<H2.nx:=fun r e=>by
   cases e
   have:S.H.nx+1+1<=H2.nx:=g2
   omega
  have at4:At C Gp ⟨mn,some none⟩ ⟨S.F,H2.upd (S.H.nx+1) .gn,some S.H.nx⟩ w0 E3 w4:=
   ⟨inv4,Fok.up n3 h.fok,h.gp,(fun l e=>by cases e),hd4⟩
  have hmd3:arl E3 ⟨mn,some none⟩ (some S.H.nx)=⟨mn,[Go.Wk.mark w.heap.size],some none⟩:=by
   show(⟨mn,[Go.Wk.mark (E3 S.H.nx).1],some none⟩:Md)=_
   rw [e0]
  have hF4:rF E3 S.F=rF E S.F:=rF_ext a3 h.fok;generalize hj:q.1=j at hv⊢;cases j with
  |zero=>
   have ev:((.nm,⟨S.F,H2.upd (S.H.nx+1) .gn,some S.H.nx⟩):Ex×T)=(e,S'):=Option.some.inj hv;cases ev
   have this:Q .normal (fr (arl E3 ⟨mn,some none⟩ (some S.H.nx)) (rF E3 S.F)) w4:=hk E3 w4 a3 n3 at4;rw [hmd3,hF4]at this;exact rg0 rfl this
  |succ j=>
   cases j with
   |zero=>
    have ev:((.rt,⟨S.F,H2.upd (S.H.nx+1) .gn,some S.H.nx⟩):Ex×T)=(e,S'):=Option.some.inj hv;cases ev
    have this:Q .ret (fr (arl E3 ⟨mn,some none⟩ (some S.H.nx)) (rF E3 S.F)) w4:=hk E3 w4 a3 n3 at4;rw [hmd3,hF4]at this;exact rg1 rfl (c_ret this)
   |succ id=>
    have ev:((.xt id,⟨S.F,H2.upd (S.H.nx+1) .gn,some S.H.nx⟩):Ex×T)=(e,S'):=Option.some.inj hv;cases ev
    have this:Q (.exit id) (fr (arl E3 ⟨mn,some none⟩ (some S.H.nx)) (rF E3 S.F)) w4:=hk E3 w4 a3 n3 at4;rw [hmd3,hF4]at this;exact rgx id rfl (abp this)
 |_=>cases hv
end
open Go.Wk
open List renaming mem_cons_of_mem -> zaD, mem_cons_self -> zaI, replicate -> zat
open Nat renaming beq -> zam, ble -> zaq, blt -> zaL
open Option renaming rec -> zan
theorem beqb_ok{a b:Bool}(h:beqb a b=true):a=b:=by cases a<;>cases b<;>first|rfl|cases h
theorem cpe_ok{a b:Cp}(h:Cp.eqb a b=true):a=b:=by
 cases a with
 |k c=>cases b with
  |k c'=>have h':zam c c'=true:=h;rw [aao]at h';rw [h']
  |r _=>cases h
 |r c=>cases b with
  |r c'=>have h':zam c c'=true:=h;rw [aao]at h';rw [h']
  |k _=>cases h
theorem bb2{a b:Bool}(h:bi a b false=true):a=true/\b=true:=by
 cases a with
 |true=>exact⟨rfl,h⟩
 |false=>cases h
theorem nb{a b:Nat}(h:zam a b=true):a=b:=by rw [aao]at h;exact h
theorem eqL_ok{α:Type}{q:α->α->Bool}(hq:∀{x y},q x y=true->x=y):∀{l r:List α},eqL q l r=true->l=r
 |[],[],_=>rfl
 |[],_::_,h=>by cases h
 |_::_,[],h=>by cases h
 |x::l,y::r,h=>by
  obtain⟨h1,h2⟩:=bb2 (show bi (q x y) (eqL q l r) false=true from h);rw [hq h1,eqL_ok hq h2]
theorem sce_ok{x y:SC}(h:SC.eqb x y=true):x=y:=by
 unfold SC.eqb at h;split at h
 ·rw [beqb_ok h]
 ·obtain⟨h1,h2⟩:=bb2 h;rw [kn_inj h1,nb h2]
 ·obtain⟨h1,h2⟩:=bb2 h;rw [nb h1,nb h2]
 ·rfl
 ·rfl
 ·rfl
 ·rfl
 ·rfl
 ·obtain⟨h1,h2⟩:=bb2 h;rw [nb h1,nb h2]
 ·obtain⟨h1,h2⟩:=bb2 h;rw [nb h1,nb h2]
 ·obtain⟨h1,h2⟩:=bb2 h;obtain⟨h2,h3⟩:=bb2 h2;obtain⟨h3,h4⟩:=bb2 h3;rw [nb h1,nb h2,nb h3,cpe_ok h4]
 ·obtain⟨h1,h2⟩:=bb2 h;rw [nb h1,eqL_ok nb h2]
 ·rw [nb h]
 ·rw [nb h]
 ·obtain⟨h1,h2⟩:=bb2 h;obtain⟨h2,h3⟩:=bb2 h2;obtain⟨h3,h4⟩:=bb2 h3;rw [nb h1,nb h2,nb h3,nb h4]
 ·cases h
theorem sae_ok{x y:SA}(h:SA.eqb x y=true):x=y:=by
 cases x<;>cases y<;>first|cases h|skip
 ·rw [sce_ok (show SC.eqb _ _=true from h)]
 ·rw [eqL_ok sce_ok (show eqL SC.eqb _ _=true from h)]
theorem sve_ok{x y:SV}(h:SV.eqb x y=true):x=y:=by
 cases x<;>cases y<;>first|rfl|cases h|skip
 ·rw [sce_ok (show SC.eqb _ _=true from h)]
 ·rw [eqL_ok sce_ok (show eqL SC.eqb _ _=true from h)]
 ·rw [eqL_ok sae_ok (show eqL SA.eqb _ _=true from h)]
theorem moe_ok{x y:Mo}(h:Mo.eqb x y=true):x=y:=by
 cases x<;>cases y<;>first|rfl|cases h|skip
 obtain⟨h1,h2⟩:=bb2 (show bi (zam _ _) (zam _ _) false=true from h);rw [nb h1,nb h2]
theorem p2e_ok{x y:SC×SC}(h:P2.eqb x y=true):x=y:=by
 obtain⟨h1,h2⟩:=bb2 (show bi (SC.eqb x.1 y.1) (SC.eqb x.2 y.2) false=true from h);exact Prod.ext (sce_ok h1) (sce_ok h2)
theorem hbe_ok{x y:HB}(h:HB.eqb x y=true):x=y:=by
 unfold HB.eqb at h;split at h
 ·rw [eqL_ok p2e_ok h]
 ·obtain⟨h1,h2⟩:=bb2 h;obtain⟨h2,h3⟩:=bb2 h2;rw [nb h1,moe_ok h2,eqL_ok sce_ok h3]
 ·obtain⟨h1,h2⟩:=bb2 h;obtain⟨h2,h3⟩:=bb2 h2;rw [nb h1,nb h2,nb h3]
 ·rfl
 ·rfl
 ·cases h
theorem oe_ok{α:Type}{q:α->α->Bool}(hq:∀{x y},q x y=true->x=y){x y:Option α}(h:oeqb q x y=true):x=y:=by
 cases x<;>cases y<;>first|rfl|cases h|skip
 rw [hq (show q _ _=true from h)]
theorem tre_ok{α:Type}{q:α->α->Bool}(hq:∀{x y},q x y=true->x=y):∀{t t':Tr α},Tr.eqb q t t'=true->t=t'
 |.e,.e,_=>rfl
 |.e,.n ..,h=>by cases h
 |.n ..,.e,h=>by cases h
 |.n l v r,.n l' v' r',h=>by
  obtain⟨h1,h2⟩:=bb2 (show bi (oeqb q v v') (bi (Tr.eqb q l l') (Tr.eqb q r r') false) false=true from h);obtain⟨h2,h3⟩:=bb2 h2;rw [oe_ok hq h1,tre_ok hq h2,tre_ok hq h3]
theorem te_ok{S S':T}(h:T.eqb S S'=true):S=S':=by
 obtain⟨h1,h2⟩:=bb2 h;obtain⟨h2,h3⟩:=bb2 h2;obtain⟨h3,h4⟩:=bb2 h3;obtain⟨F,⟨n,t⟩,D⟩:=S;obtain⟨F',⟨n',t'⟩,D'⟩:=S';rw [show n=n' from nb h1,show D=D' from oeq_ok h2,show F=F' from tre_ok sve_ok h3,show t=t' from tre_ok hbe_ok h4]
theorem blL_ok{n:Nat}:∀{l:List Nat},blL n l=true->∀i∈l,i<n
 |[],_,i,hi=>by cases hi
 |x::l,h,i,hi=>by
  obtain⟨h1,h2⟩:=bb2 (show bi (zaq (x+1) n) (blL n l) false=true from h);rcases List.mem_cons.1 hi with rfl|hi
  ·rw [aam]at h1;exact h1
  ·exact blL_ok h2 i hi
theorem sc_okb{n:Nat}{x:SC}(h:x.okb n=true):x.ok n:=by
 cases x with
 |p i off=>have h':zaq (i+1) n=true:=h;rw [aam]at h';exact h'
 |sl i base m c=>have h':zaq (i+1) n=true:=h;rw [aam]at h';exact h'
 |y i=>have h':zaq (i+1) n=true:=h;rw [aam]at h';exact h'
 |m i=>have h':zaq (i+1) n=true:=h;rw [aam]at h';exact h'
 |z i b dd off=>have h':zaq (i+1) n=true:=h;rw [aam]at h';exact h'
 |fn f cs=>exact blL_ok (show blL n cs=true from h)
 |_=>trivial
theorem okL_ok{n:Nat}:∀{l:List SC},okL n l=true->∀x∈l,x.ok n
 |[],_,i,hi=>by cases hi
 |x::l,h,i,hi=>by
  obtain⟨h1,h2⟩:=bb2 (show bi (x.okb n) (okL n l) false=true from h);rcases List.mem_cons.1 hi with rfl|hi
  ·exact sc_okb h1
  ·exact okL_ok h2 i hi
theorem sv_okb{n:Nat}{v:SV}(h:v.okb n=true):v.ok n:=by
 cases v with
 |c x=>exact sc_okb h
 |a l=>exact okL_ok h
 |t l=>cases h
 |u=>trivial
section
variable {C : Cx} {Gp : World -> Prop} {m : M} {n : Md} {S S' : T} {w0 w : World} {E E' : En} {K : Ks} {H : Hs}
theorem hp_none(w:World):∀L:List Res,(∀r∈L,r=⟨none,fun _=>True⟩)->Hp w [] L w
 |[],_=>Hp.refl w
 |r::L,h=>by
  rw [h r zaI];exact hp_gn (hp_none w L fun r hr=>h r (zaD _ hr))
theorem inv_bare(E:En)(n:Nat)(w:World):Inv w E ⟨n,.e⟩ w:=by
 refine⟨hp_none w _ fun r hr=> ?_,fun i b h=> ?_,fun i b h=> ?_⟩
 ·obtain⟨i,_,rfl⟩:=List.mem_map.1 hr;show resOf E i (hat ⟨n,.e⟩ i)=_;unfold hat;simp only [Tr.get_e];rfl
 ·simp only [Tr.get_e]at h;cases h
 ·simp only [Tr.get_e]at h;cases h
theorem slOf_ok{op:Op}{q:Nat×Operand×Option Operand×Option Operand×Option Operand}(h:slOf op=some q):op=.slice q.1 q.2.1 q.2.2.1 q.2.2.2.1 q.2.2.2.2:=by
 cases op<;>first|(cases h;rfl)|cases h
theorem bare_ok(h0:Sd C m S n w0 E w){o:Oper}{v:SV}(hv:valB C m S o=some v)(w:World):(execOp (evn n (rF E S.F)) o).run C.P w=.ok (.value (v.re E)) w/\v.ok S.H.nx:=by
 have hs:Sd C.bare m (S0 S) n w E w:=⟨h0.hn,inv_bare E _ w,h0.fok,fun g cs h=>by cases h⟩
 obtain⟨d,op,ty,pos,after,gd⟩:=o;unfold valB at hv;cases hq:slOf op with
 |none=>
  have hv:(zan (opV op C.bare m (S0 S) ⟨d,op,ty,pos,after,gd⟩) (fun q=>opSliceR C.bare m (S0 S) (room S) q.1 q.2.1 q.2.2.1 q.2.2.2.1 q.2.2.2.2) (slOf op):Option SV)=some v:=hv;rw [hq]at hv;exact opV_ok hs hv
 |some q=>
  have hv:(zan (opV op C.bare m (S0 S) ⟨d,op,ty,pos,after,gd⟩) (fun q=>opSliceR C.bare m (S0 S) (room S) q.1 q.2.1 q.2.2.1 q.2.2.2.1 q.2.2.2.2) (slOf op):Option SV)=some v:=hv;rw [hq]at hv;have e:=slOf_ok hq;subst e;exact yd_sliceR hs (fun i k hr=>room_ok h0 hr) hv
theorem ldOf_ok{op:Op}{q:Nat×Operand}(h:ldOf op=some q):op=.load q.1 q.2:=by
 cases op<;>first|(cases h;rfl)|cases h
def fact(P:Program)(E:En)(f:Fa)(w:World):Prop:=∃A:Addr,f.x.re E=.pointer (some A)/\(loadVar f.t A).run P w=.ok (f.v.re E) w
def Srel(P:Program)(E:En)(fs:List Fa)(j:Nat)(w w':World):Prop:=∀f∈fs,agy f.D (fact P E f) j w w'
theorem srel_refl(P:Program)(E:En)(fs:List Fa):∀j w,Srel P E fs j w w:=fun _ _ _ _=>agy.same
inductive Fit (ops:Array Oper) (k:Nat):Nat->List Bool->Pl->Prop
 |dn {l:List Bool} (h:Region.seqB .any ops (ops.size-k) k l.toArray=true):Fit ops k 0 l .dn
 |pu {f:Nat} {l:List Bool} {i d:Nat} {o:Oper} {n:Pl} (h1:ops[i]? =some o) (h2:o.dst=some d) (h3:Region.free .any ops l.toArray i=true) (h4:(Region.ready .any ops l.toArray).contains i=true) (h5:zaL i k=true)
   (h6:Fit ops k f (l.set i true) n):Fit ops k (f+1) l (.pu i o d n)
 |ld {f:Nat} {l:List Bool} {i d:Nat} {o:Oper} {n:Pl} {D:List Nat} (h1:ops[i]? =some o) (h2:o.dst=some d) (h3:Region.free .any ops l.toArray i=true) (h4:(Region.ready .any ops l.toArray).contains i=true) (h5:zaL i k=true)
   (hD:descB .any ops i D=true) (h6:Fit ops k f (l.set i true) n):Fit ops k (f+1) l (.ld i o d D n)
 |on {f:Nat} {l:List Bool} {i:Nat} {o:Oper} {n:Pl} (h1:ops[i]? =some o) (h2:Region.ready .any ops l.toArray=[i]) (h5:zaL i k=true) (h6:Fit ops k f (l.set i true) n):Fit ops k (f+1) l (.on i o n)
 |tw {f:Nat} {l:List Bool} {i j:Nat} {o o':Oper} {n n':Pl} (h1:ops[i]? =some o) (h1':ops[j]? =some o') (h2:Region.ready .any ops l.toArray=[i,j]) (h5:zaL i k=true) (h5':zaL j k=true)
   (h6:Fit ops k f (l.set i true) n) (h6':Fit ops k f (l.set j true) n'):Fit ops k (f+1) l (.tw i o n j o' n')
theorem qf_ok{ops:Array Oper}{k i:Nat}{l:List Bool}(h:qf C ops k l i=true):zaL i k=true/\Region.free .any ops l.toArray i=true:=by
 obtain⟨h1,h2⟩:=bb2 h;refine⟨h1, ?_⟩
 cases ho:ops[i]? with
 |none=>rw [ho]at h2;cases h2
 |some o=>
  rw [ho]at h2;obtain⟨_,h2⟩:=bb2 (show bi (zaq (kindV C o.op) 1) (bi o.dst.isSome (Region.free .any ops l.toArray i) false) false=true from h2);exact(bb2 h2).2
theorem planE_ok{ops:Array Oper}{k:Nat}:∀(f:Nat) (l:List Bool) (p:Pl),planE C ops k f l=some p->Fit ops k f l p
 |0,l,p,h=>by
  obtain⟨h1,h2⟩:=aaf h;cases h2
  exact .dn h1
 |f+1,l,p,h=>by
  have h':zan (stepL ops k (planE C ops k f) l (Region.ready .any ops l.toArray)) (stepQ C ops (planE C ops k f) l) ((Region.ready .any ops l.toArray).find? (qf C ops k l))=some p:=h;cases hf:(Region.ready .any ops l.toArray).find? (qf C ops k l)with
  |some i=>
   rw [hf]at h';obtain⟨o,h1,h'⟩:=aaa (show stepQ C ops (planE C ops k f) l i=some p from h');obtain⟨d,h2,h'⟩:=aaa h';obtain⟨n,h3,h'⟩:=aaa h';obtain⟨q1,q2⟩:=qf_ok (List.find?_some hf);have hm:(Region.ready .any ops l.toArray).contains i=true:=by simpa using List.mem_of_find?_eq_some hf
   have ih:=planE_ok f _ n h3;rw [abu]at h';split at h'
   ·cases h';exact .pu h1 h2 q2 hm q1 ih
   ·obtain⟨h4,h'⟩:=aaf h';cases h';exact .ld h1 h2 q2 hm q1 h4 ih
  |none=>
   rw [hf]at h';have h':stepL ops k (planE C ops k f) l (Region.ready .any ops l.toArray)=some p:=h';unfold stepL at h';split at h'
   ·rename_i i hr;obtain⟨h1,h'⟩:=aaf h';obtain⟨o,h2,h'⟩:=aaa h';obtain⟨n,h3,h'⟩:=aaa h';cases h'
    exact .on h2 hr h1 (planE_ok f _ n h3)
   ·rename_i i j hr;obtain⟨h1,h'⟩:=aaf h';obtain⟨h1',h'⟩:=aaf h';obtain⟨o,h2,h'⟩:=aaa h';obtain⟨o',h2',h'⟩:=aaa h';obtain⟨n,h3,h'⟩:=aaa h';obtain⟨n',h3',h'⟩:=aaa h';cases h'
    exact .tw h2 h2' hr h1 h1' (planE_ok f _ n h3) (planE_ok f _ n' h3')
   ·cases h'
theorem planOf_ok{ops:Array Oper}{k:Nat}{p:Pl}(h:planOf C ops=some (k,p)):amu ops k=true/\Fit ops k k (zat ops.size false) p:=by
 obtain⟨h1,h⟩:=aaf (show bi (amu ops (kOf ops ops.size)) (ob (planE C ops (kOf ops ops.size) (kOf ops ops.size) (zat ops.size false)) fun p=>some (kOf ops ops.size,p)) none=some (k,p)from h);obtain⟨q,h2,h⟩:=aaa h;cases h
 exact⟨h1,planE_ok _ _ _ h2⟩
end
section
variable {C : Cx} {Gp : World -> Prop} {m : M} {S S' : T} {w0 w : World} {E E' : En} {K : Ks} {H : Hs}
end
open Go.Wk
open List renaming mem_cons_of_mem -> zaD, mem_cons_self -> zaI
open Nat renaming blt -> zaL, le_refl -> zah, le_trans -> zaF
open Option renaming rec -> zan
section
variable {C : Cx} {Gp : World -> Prop} {m : M} {S S' : T} {w0 w : World} {E E' : En} {K : Ks} {H : Hs}
theorem gpass_ok{ops:Array Oper}{o:Oper}{g:Bool}{n:Md}(hn:n.n=m.n)(h:gpass m ops S o=some g):Region.wanted o (yielded ops (fr n (rF E S.F)).tmps)=g:=by
 unfold gpass at h;cases hg:o.guard with
 |none=>
  rw [hg]at h;have e:true=g:=Option.some.inj h;subst e;simp [Region.wanted,hg]
 |some q=>
  obtain⟨gi,b⟩:=q;rw [hg]at h;obtain⟨dg,h1,h⟩:=aaa h;obtain⟨h2,h⟩:=aaf h;have e1:oget (S.F.get dg)=tv S.F dg:=tv_rec S.F dg;rw [e1]at h;have h3:zaL dg n.n=true:=by rw [hn];exact h2
  unfold Region.wanted;simp only [hg,aqm (n:=n) ops gi dg h1 h3];rcases gval_ok h E with⟨hb,rfl⟩|⟨hb,rfl⟩|⟨hb,rfl⟩
  ·have:rF E S.F dg=.bool b:=hb
   rw [this];simp
  ·have:rF E S.F dg=.bool (!b):=hb
   rw [this];cases b<;>rfl
  ·have:rF E S.F dg=undef:=by
    show(tv S.F dg).re E=_
    rw [hb];rfl
   rw [this];simp [undef]
theorem yi_no{ops:Array Oper}{o:Oper}{n:Md}{Si:World->Prop}(hn:n.n=m.n)(h:gpass m ops S o=some false):YieldsIf C.P ops Si o undef (fr n (rF E S.F)):=.inr ⟨gpass_ok hn h,rfl⟩
theorem yi_yes{ops:Array Oper}{o:Oper}{n:Md}{Si:World->Prop}{v:Value}(hn:n.n=m.n)(h:gpass m ops S o=some true)(hr:∀w,Si w->(execOp (evn n (rF E S.F)) o).run C.P w=.ok (.value v) w):
  YieldsIf C.P ops Si o v (fr n (rF E S.F)):=.inl ⟨gpass_ok hn h,fun w hw=>by rw [ajv];exact hr w hw⟩
theorem fact_at(hC:Cok C Gp){E0:En}{n0:Nat}{f:Fa}(h:At C Gp m S w0 E w)(ha:Ag n0 E0 E)(hx:f.x.ok n0)(hv:f.v.ok n0){v:SV}(hl:loadC C S f.t f.x=some v)(e:f.v=v):fact C.P E0 f w:=by
 obtain⟨A,h1,h2,h3⟩:=loadC_ok (h.sd hC) hl;subst e;exact⟨A,by rw [<-SC.ext ha hx];exact h1,by rw [<-SV.ext ha hv];exact h2⟩
theorem fact_kept(hC:Cok C Gp){E0:En}{n0 j:Nat}{f:Fa}{w':World}(h:At C Gp m S w0 E w')(ha:Ag n0 E0 E)(hx:f.x.ok n0)(hv:f.v.ok n0)(hc:chk1 C j S.H f=true):agy f.D (fact C.P E0 f) j w w':=by
 cases hD:f.D.contains j with
 |true=>exact agy.out hD
 |false=>
  have hc':bi (f.D.contains j) true (zan false (fun v=>SV.eqb f.v v) (loadC C ⟨.e,S.H,none⟩ f.t f.x))=true:=hc;rw [hD]at hc';have hc':(zan false (fun v=>SV.eqb f.v v) (loadC C ⟨.e,S.H,none⟩ f.t f.x):Bool)=true:=hc';have e1:loadC C ⟨.e,S.H,none⟩ f.t f.x=loadC C S f.t f.x:=rfl;rw [e1]at hc';cases hl:loadC C S f.t f.x with
  |none=>rw [hl]at hc';cases hc'
  |some v=>
   rw [hl]at hc';exact agy.new (fact_at hC h ha hx hv hl (sve_ok hc'))
structure Fin (C:Cx) (n0:Nat) (FS:List Fa):Prop where
 x:∀f∈FS,f.x.ok n0
 v:∀f∈FS,f.v.ok n0
def Sn(C:Cx)(FS:List Fa)(sn:List (Nat×Hs)):Prop:=∀p∈sn,∀f∈FS,chk1 C p.1 p.2 f=true
theorem chk_ok{n0:Nat}{fs:List Fa}{sn:List (Nat×Hs)}(h:chk C n0 fs sn=true):Fin C n0 fs/\Sn C fs sn:=by
 obtain⟨h1,h2⟩:=bb2 h;refine⟨⟨fun f hf=> ?_,fun f hf=> ?_⟩,fun p hp f hf=> ?_⟩
 ·exact sc_okb (bb2 (List.all_eq_true.1 h1 f hf)).1
 ·exact sv_okb (bb2 (List.all_eq_true.1 h1 f hf)).2
 ·exact List.all_eq_true.1 (List.all_eq_true.1 h2 p hp) f hf
theorem srel_at(hC:Cok C Gp){E0:En}{n0 j:Nat}{FS:List Fa}(hF:Fin C n0 FS){w':World}(h:At C Gp m S w0 E w')(ha:Ag n0 E0 E)(hc:∀f∈FS,chk1 C j S.H f=true):Srel C.P E0 FS j w w':=
 fun f hf=>fact_kept hC h ha (hF.x f hf) (hF.v f hf) (hc f hf)
theorem mem_lapp{α:Type}{l r:List α}{x:α}:x∈lapp l r↔x∈l\/x∈r:=by rw [asd];exact List.mem_append
theorem drawP_ok(hC:Cok C Gp)(hK:KsOk C Gp K){ops:Array Oper}{k n0:Nat}{E0:En}{FS:List Fa}(hs:amu ops k=true)(hF:Fin C n0 FS){Q:Exit->Act->World->Prop}:
  ∀{f:Nat} {l:List Bool} {pl:Pl},Fit ops k f l pl->∀(S:T) (r:Dr),drawP C K m ops pl S=some r->(∀x∈r.2.1,x∈FS)->Sn C FS r.2.2->
   ∀(E:En) (w:World),At C Gp m S w0 E w->Ag n0 E0 E->n0<=S.H.nx->
   Then C Gp m S r.1 w0 E (fun E' w'=>Go.Wk.W C.P (arl E' m r.1.D) ops Q (ops.toList.drop k) (rF E' r.1.F) w')->
   Go.Wk.RO C.P (arl E m S.D) ops Q (Srel C.P E0 FS) k f l (rF E S.F) w:=by
 intro f l pl hfit;induction hfit with
 | @dn l h=>
  intro S r hv hfs hsn E w h0 ha hn hk;have e:(S,([]:List Fa),([]:List (Nat×Hs)))=r:=Option.some.inj hv;subst e;exact rO_zero h (hk E w (Ag.refl _ _) (zah _) h0)
 | @pu f l i d o n h1 h2 h3 h4 h5 h6 ih=>
  intro S r hv hfs hsn E w h0 ha hn hk;obtain⟨g,hg,hv⟩:=aaa (show(ob (gpass m ops S o) fun g=>bi g (ob (valB C m S o) fun v=>drawP C K m ops n ⟨S.F.set d v,S.H,S.D⟩) (drawP C K m ops n ⟨S.F.set d .u,S.H,S.D⟩))=some r from hv);cases g with
  |false=>
   have hat:=at_set h0 (Ag.refl _ _) (zah _) h0.inv d (v:=.u) trivial
   have:=ih ⟨S.F.set d .u,S.H,S.D⟩ r hv hfs hsn E w hat ha hn hk
   simp only [rF_set]at this;exact rO_take (kn:=m.n) (kD:=dl E S.D) (ro:=ro E m) _ i d undef o h1 h2 hs h3 h4 h5 rfl (yi_no (n:=(arl E m S.D)) rfl hg) this
  |true=>
   obtain⟨v,hv1,hv⟩:=aaa (show(ob (valB C m S o) fun v=>drawP C K m ops n ⟨S.F.set d v,S.H,S.D⟩)=some r from hv);have hsd:Sd C m S (arl E m S.D) w0 E w:=⟨rfl,h0.inv,h0.fok,hC.g h0.gp⟩
   have hb:=fun w=>bare_ok hsd hv1 w
   have hat:=at_set h0 (Ag.refl _ _) (zah _) h0.inv d (v:=v) (hb w).2
   have:=ih ⟨S.F.set d v,S.H,S.D⟩ r hv hfs hsn E w hat ha hn hk
   simp only [rF_set]at this;exact rO_take (kn:=m.n) (kD:=dl E S.D) (ro:=ro E m) _ i d (v.re E) o h1 h2 hs h3 h4 h5 rfl (yi_yes (n:=(arl E m S.D)) rfl hg fun w _=>(hb w).1) this
 | @ld f l i d o n D h1 h2 h3 h4 h5 hD h6 ih=>
  intro S r hv hfs hsn E w h0 ha hn hk;obtain⟨g,hg,hv⟩:=aaa (show(ob (gpass m ops S o) fun g=>bi g (ob (ldOf o.op) fun q=>ob (evC m S q.2) fun y=>ob (loadC C S q.1 y) fun v=>ob (drawP C K m ops n ⟨S.F.set d v,S.H,S.D⟩) fun p=>some (p.1,(⟨D,y,q.1,v⟩:Fa)::p.2.1,p.2.2)) (drawP C K m ops n ⟨S.F.set d .u,S.H,S.D⟩))=some r from hv);cases g with
  |false=>
   have hat:=at_set h0 (Ag.refl _ _) (zah _) h0.inv d (v:=.u) trivial
   have:=ih ⟨S.F.set d .u,S.H,S.D⟩ r hv hfs hsn E w hat ha hn hk
   simp only [rF_set]at this;exact rO_take (kn:=m.n) (kD:=dl E S.D) (ro:=ro E m) _ i d undef o h1 h2 hs h3 h4 h5 rfl (yi_no (n:=(arl E m S.D)) rfl hg) this
  |true=>
   obtain⟨q,q1,hv⟩:=aaa (show(ob (ldOf o.op) fun q=>ob (evC m S q.2) fun y=>ob (loadC C S q.1 y) fun v=>ob (drawP C K m ops n ⟨S.F.set d v,S.H,S.D⟩) fun p=>some (p.1,(⟨D,y,q.1,v⟩:Fa)::p.2.1,p.2.2))=some r from hv);obtain⟨y,q2,hv⟩:=aaa hv;obtain⟨v,q3,hv⟩:=aaa hv;obtain⟨p,q4,hv⟩:=aaa hv;cases hv
   have hmem:(⟨D,y,q.1,v⟩:Fa)∈FS:=hfs _ zaI;have hsd:Sd C m S (arl E m S.D) w0 E w:=⟨rfl,h0.inv,h0.fok,hC.g h0.gp⟩
   obtain⟨A,l1,l2,l3⟩:=loadC_ok hsd q3;have hx:=(aeg hsd q2).1;have hat:=at_set h0 (Ag.refl _ _) (zah _) h0.inv d (v:=v) l3
   have:=ih ⟨S.F.set d v,S.H,S.D⟩ p q4 (fun x hx=>hfs x (zaD _ hx)) hsn E w hat ha hn hk
   simp only [rF_set]at this;refine rO_takeS (kn:=m.n) (kD:=dl E S.D) (ro:=ro E m) (Si:=fact C.P E0 ⟨D,y,q.1,v⟩) _ i d (v.re E) D (fun j w w' h=>h _ hmem) o h1 h2 hs hD h3 h4 h5 rfl (yi_yes (n:=(arl E m S.D)) rfl hg ?_) (fact_at hC h0 ha (hF.x _ hmem) (hF.v _ hmem) q3 rfl) this;rintro w' ⟨A',f1,f2⟩
   have f1':y.re E=.pointer (some A'):=by rw [SC.ext ha (hF.x _ hmem)];exact f1
   rw [f1']at hx;have f2':(loadVar q.1 A').run C.P w'=.ok (v.re E) w':=by rw [SV.ext ha (hF.v _ hmem)];exact f2
   have ho:=ldOf_ok q1;unfold execOp;rw [ho];simp [hx,Instr.loadAt,Instr.sureAddr,f2']
 | @on f l i o n h1 h2 h5 h6 ih=>
  intro S r hv hfs hsn E w h0 ha hn hk;obtain⟨S1,q1,hv⟩:=aaa (show(ob (opG C K m ops S o) fun S1=>ob (drawP C K m ops n S1) fun p=>some (p.1,p.2.1,(i,S1.H)::p.2.2))=some r from hv);obtain⟨p,q2,hv⟩:=aaa hv;cases hv
  have hsn1:=hsn _ zaI;refine rO_one1 (kn:=m.n) (kD:=dl E S.D) (ro:=ro E m) _ i o h1 h2 h5 rfl ?_;refine opG_wd hC hK h0 q1 [] _ ?_;intro E1 w1 a1 n1 at1;refine aso ?_;have hd:=opG_D q1;have hr:=ih S1 p q2 hfs (fun x hx=>hsn x (zaD _ hx)) E1 w1 at1 (ha.trans a1 hn) (zaF hn n1) (ary hk a1 n1);rw [hd,mdOf_ext a1 h0.m h0.d]at hr;exact rO_next (kn:=m.n) (kD:=dl E S.D) (ro:=ro E m) (srel_at hC hF at1 (ha.trans a1 hn) hsn1) hr
 | @tw f l i j o o' n n' h1 h1' h2 h5 h5' h6 h6' ih ih'=>
  intro S r hv hfs hsn E w h0 ha hn hk;obtain⟨S1,q1,hv⟩:=aaa (show(ob (opG C K m ops S o) fun S1=>ob (drawP C K m ops n S1) fun p=>ob (opG C K m ops S o') fun S2=>ob (drawP C K m ops n' S2) fun p'=>
   bi (p.1.eqb p'.1) (some (p.1,lapp p.2.1 p'.2.1,(i,S1.H)::(j,S2.H)::lapp p.2.2 p'.2.2)) none)=some r from hv)
  obtain⟨p,q2,hv⟩:=aaa hv;obtain⟨S2,q1',hv⟩:=aaa hv;obtain⟨p',q2',hv⟩:=aaa hv;obtain⟨q3,hv⟩:=aaf hv;cases hv
  have hsn1:=hsn _ zaI;have hsn2:=hsn _ (zaD _ zaI);have e:p.1=p'.1:=te_ok q3;refine rO_one2 (kn:=m.n) (kD:=dl E S.D) (ro:=ro E m) _ _ i j o o' h1 h1' h2 h5 h5' rfl rfl ?_ ?_
  ·refine opG_wd hC hK h0 q1 [] _ ?_;intro E1 w1 a1 n1 at1;refine aso ?_;have hd:=opG_D q1;have hr:=ih S1 p q2 (fun x hx=>hfs x (mem_lapp.2 (.inl hx))) (fun x hx=>hsn x (zaD _ (zaD _ (mem_lapp.2 (.inl hx))))) E1 w1 at1 (ha.trans a1 hn) (zaF hn n1) (ary hk a1 n1);rw [hd,mdOf_ext a1 h0.m h0.d]at hr;exact rO_next (kn:=m.n) (kD:=dl E S.D) (ro:=ro E m) (srel_at hC hF at1 (ha.trans a1 hn) hsn1) hr
  ·refine opG_wd hC hK h0 q1' [] _ ?_;intro E1 w1 a1 n1 at1;refine aso ?_;have hd:=opG_D q1';have hk':Then C Gp m S p'.1 w0 E (fun E' w'=>Go.Wk.W C.P (arl E' m p'.1.D) ops Q (ops.toList.drop k) (rF E' p'.1.F) w'):=by rw [<-e];exact hk
   have hr:=ih' S2 p' q2' (fun x hx=>hfs x (mem_lapp.2 (.inr hx))) (fun x hx=>hsn x (zaD _ (zaD _ (mem_lapp.2 (.inr hx))))) E1 w1 at1 (ha.trans a1 hn) (zaF hn n1) (ary hk' a1 n1);rw [hd,mdOf_ext a1 h0.m h0.d]at hr;exact rO_next (kn:=m.n) (kD:=dl E S.D) (ro:=ro E m) (srel_at hC hF at1 (ha.trans a1 hn) hsn2) hr
theorem draw_ok(hC:Cok C Gp)(hK:KsOk C Gp K){id:Nat}{ops:Array Oper}(m:M)(S S':T)(hv:drawE C K m ops S=some S')(w0:World)(E:En)(w:World)(Q:Exit->Act->World->Prop)(h:At C Gp m S w0 E w)(hq:NoP Q)
  (hk:Then C Gp m S S' w0 E (fun E' w'=>Q .normal (fr (arl E' m S'.D) (rF E' S'.F)) w')):Go.Wk.C C.P (arl E m S.D) Q (.region id ops true) (rF E S.F) w:=by
 obtain⟨h1,hv⟩:=aaf hv;obtain⟨p,h2,hv⟩:=aaa hv;obtain⟨r,h3,hv⟩:=aaa hv;obtain⟨h4,h5⟩:=aaf hv;obtain⟨k,pl⟩:=p;obtain⟨hs,hfit⟩:=planOf_ok h2;obtain⟨hF,hS⟩:=chk_ok h4;obtain⟨l⟩:=ops;have hD:(ro E m).isSome=true->NoD l.toArray:=by
  intro hm j o c hj hop;have h1':noDf l.toArray=true:=by
   obtain⟨mn,mm⟩:=m;cases mm with
   |none=>cases hm
   |some x=>exact h1
  have h6:=List.all_eq_true.1 h1' o (by
   have:=List.mem_of_getElem? (show l[j]? =some o by simpa using hj)
   simpa using this)
  rw [hop]at h6;cases h6
 refine c_drawnO (kn:=m.n) (kD:=dl E S.D) (ro:=ro E m) k (Srel C.P E r.2.1) _ (srel_refl _ _ _) hC.mo hs h.inv.hp rfl hq hD fun w' hH=> ?_
 have hat:At C Gp m S w0 E w':=⟨⟨hH,h.inv.lt,h.inv.ok⟩,h.fok,h.gp,h.m,h.d⟩
 refine drawP_ok hC hK hs hF hfit S r h3 (fun _ hx=>hx) hS E w' hat (Ag.refl _ _) (zah _) ?_;intro E' w'' a' n' at';have h5':opsE C K m l.toArray (l.drop k) r.1=some S':=by
  rw [<-ldrop_eq];exact h5
 exact opsE_ok hC hK _ r.1 S' E' w'' at' h5' Q (ary hk a' n')
end
open Go.Wk
open List renaming map_cons -> zaC, mem_cons_self -> zaI
open Nat renaming blt -> zaL, le_refl -> zah
section
variable {C : Cx} {Gp : World -> Prop} {m : M} {S S' : T} {w0 w : World} {E E' : En} {K : Ks} {H : Hs}
theorem run_none{c:Code}:asp C Gp (fun m S=>eNone K m S) c:=fun m S e S' hv=>by cases hv
theorem exec_ok(hC:Cok C Gp)(hK:KsOk C Gp K)(c:Code):asp C Gp (fun m S=>exec C c K m S) c:=by
 induction c with
 |skip=>exact run_skip (K:=K) (.inl rfl)
 |region id ops d=>exact run_region hC hK fun m S S' hv w0 E w Q h hq hk=>draw_ok hC hK m S S' hv w0 E w Q h hq hk
 |seq x y hx hy=>exact run_seq hx hy
 |cond c x y hx hy=>exact run_cond hC hx hy
 |block id x hx=>exact run_block hx
 |loop x hx=>exact run_loop hx
 |rangeFunc f ps asg body _ _=>exact run_range (xa:=exec C asg) (xb:=exec C body) hC hK
 |exit id=>exact run_exit (K:=K)
 |scope x hx=>exact run_scope hx
 |label l=>exact run_skip (K:=K) (.inr ⟨l,rfl⟩)
 |goto l=>exact run_none (K:=K)
 |ret=>exact run_ret (K:=K)
 |_=>exact run_none (K:=K)
theorem setL_get:∀(l:List SV) (F:Tr SV) (k t:Nat),(setL F k l).get t=if k<=t/\t<k+l.length then l[t-k]? else F.get t
 |[],F,k,t=>by rw [if_neg (fun h=>by have h1:=h.1;have h2:=h.2;simp at h2;omega)];rfl
 |v::l,F,k,t=>by
  have h:=setL_get l (F.set k v) (k+1) t;have e:setL F k (v::l)=setL (F.set k v) (k+1) l:=rfl;rw [e,h,Tr.get_set];by_cases h1:t=k
  ·subst h1;rw [if_neg (by omega),if_pos rfl,if_pos (by simp)];simp
  ·rw [if_neg h1];by_cases h2:k+1<=t/\t<k+1+l.length
   ·rw [if_pos h2,if_pos (by simp;omega)];obtain⟨j,rfl⟩:∃j,t=k+1+j:=⟨t-(k+1),by omega⟩
    rw [show k+1+j-(k+1)=j by omega,show k+1+j-k=j+1 by omega];rfl
   ·rw [if_neg h2,if_neg (by simp;omega)]
theorem setL_args(E:En)(vs:List SV):rF E (setL .e 0 vs)=argF (vs.map (SV.re E)):=by
 funext t
 unfold rF tv argF;rw [setL_get];by_cases h:0<=t/\t<0+vs.length
 ·rw [if_pos h];have h2:t<vs.length:=by omega
  simp [h2]
 ·rw [if_neg h,Tr.get_e];have h2:vs.length<=t:=by omega
  simp [h2,SV.re]
theorem setL_ok{n:Nat}{vs:List SV}(h:∀x∈vs,x.ok n):Fok n (setL .e 0 vs):=by
 intro t v hv;rw [setL_get]at hv;split at hv
 ·exact h v (List.mem_of_getElem? hv)
 ·rw [Tr.get_e]at hv;cases hv
theorem resE_ok(hC:Cok C Gp)(h:At C Gp m S w0 E w){k:Nat}{n:Md}(hn:n.n=k){x:ResultVar}{a:SA}(hv:resE C ⟨k,none⟩ S x=some a):(Go.Wk.resOf (fr n (rF E S.F)).tmps x).run C.P w=.ok (a.re E) w/\a.ok S.H.nx:=by
 have hsd:Sd C ⟨k,none⟩ S n w0 E w:=⟨hn,h.inv,h.fok,hC.g h.gp⟩
 cases x with
 |tmp t=>
  obtain⟨v,h1,h2⟩:=aaa (show(ob (evO ⟨k,none⟩ S (.tmp t)) SV.sa)=some a from hv);obtain⟨h3,h4⟩:=asy hsd h1;refine⟨?_,SV.sa_ok h2 h4⟩
  have h3':(bif zaL t n.n then rF E S.F t else undef)=v.re E:=h3;rw [SV.sa_r h2];simp only [Go.Wk.resOf,fr_get,h3',Sem.run_pure]
 |cell b t=>
  obtain⟨v,h1,h2⟩:=aaa (show(ob (opLoad C ⟨k,none⟩ S t (.tmp b)) SV.sa)=some a from hv);obtain⟨y,h3,h4⟩:=aaa h1;obtain⟨A,l1,l2,l3⟩:=loadC_ok hsd h4;have hx:=(aeg hsd h3).1;rw [l1]at hx;refine⟨?_,SV.sa_ok h2 l3⟩
  have hx':(bif zaL b n.n then rF E S.F b else undef)=.pointer (some A):=hx;rw [SV.sa_r h2];simp only [Go.Wk.resOf,fr_get,hx',asAddr,Sem.run_bind,Sem.run_pure,Result.andThen_ok,l2]
theorem resL_ok(hC:Cok C Gp)(h:At C Gp m S w0 E w){k:Nat}{n:Md}(hn:n.n=k):∀{l:List ResultVar} {azq:List SA},resL C ⟨k,none⟩ S l=some azq->
  l.length=azq.length/\(∀(i:Nat) (x:ResultVar) (v:Value),l[i]? =some x->(azq.map (SA.re E))[i]? =some v->(Go.Wk.resOf (fr n (rF E S.F)).tmps x).run C.P w=.ok v w)/\∀a∈azq,a.ok S.H.nx
 |[],azq,hv=>by
  have e:[]=azq:=Option.some.inj hv;subst e;exact⟨rfl,fun i x v h=>by simp at h,fun a h=>by cases h⟩
 |x::l,azq,hv=>by
  obtain⟨a,h1,hv⟩:=aaa hv;obtain⟨q,h2,hv⟩:=aaa hv;cases hv
  obtain⟨r1,r2⟩:=resE_ok hC h hn h1;obtain⟨i1,i2,i3⟩:=resL_ok hC h hn (show resL C ⟨k,none⟩ S l=some q from h2);refine⟨by simp [i1], ?_, ?_⟩
  ·intro i y v hy hv;cases i with
   |zero=>
    simp at hy hv
    subst hy;subst hv;exact r1
   |succ i=>exact i2 i y v (by simpa using hy) (by simpa using hv)
  ·intro b hb;rcases List.mem_cons.1 hb with rfl|hb
   ·exact r2
   ·exact i3 b hb
theorem one_ok{n:Nat}{azq:List SA}(h:∀a∈azq,a.ok n):(oneV azq).ok n:=by
 cases azq with
 |nil=>exact fun x hx=>by cases hx
 |cons a l=>cases l with
  |nil=>exact SA.sv_ok (h a zaI)
  |cons b l=>exact h
theorem one_re(E:En)(azq:List SA):(match azq.map (SA.re E)with|[u]=>u|us=>.tuple us.toArray)=(oneV azq).re E:=by
 cases azq with
 |nil=>rfl
 |cons a l=>cases l with
  |nil=>exact(SA.sv_r E a).symm
  |cons b l=>rfl
theorem results_ok(hC:Cok C Gp)(h:At C Gp m S w0 E w){k:Nat}{fn:Func}{azq:List SA}(hv:resL C ⟨k,none⟩ S fn.results.toList=some azq)(D:List Deferred)(r:Option (Option Nat)):
  (results fn (fr ⟨k,D,r⟩ (rF E S.F)).tmps).run C.P w=.ok ((oneV azq).re E) w/\(oneV azq).ok S.H.nx:=by
 obtain⟨h1,h2,h3⟩:=resL_ok hC h (n:=⟨k,D,r⟩) rfl hv;refine⟨?_,one_ok h3⟩
 have hm:=run_mapM (P:=C.P) (w:=w) (Go.Wk.resOf (fr ⟨k,D,r⟩ (rF E S.F)).tmps) fn.results.toList (azq.map (SA.re E)) (by simp [h1]) h2;unfold results;obtain⟨l,hr⟩:∃l:List ResultVar,fn.results=l.toArray:=⟨fn.results.toList,by simp⟩
 rw [hr]at hm⊢;change Sem.run C.P (do let vs<-l.toArray.mapM (Go.Wk.resOf (fr ⟨k,D,r⟩ (rF E S.F)).tmps);pure (if h:vs.size=1 then vs[0]else .tuple vs)) w=_
 simp only [List.mapM_toArray,Sem.run_bind,Sem.run_map];rw [hm];simp only [Result.andThen_ok,Sem.run_pure];rw [<-one_re];congr 1
 generalize azq.map (SA.re E)=vs;cases vs with
 |nil=>simp
 |cons u us=>cases us with
  |nil=>simp
  |cons u' us=>simp
theorem mdF_two(c:Code)(vs:List SV):mdF c vs=none\/mdF c vs=some none:=by
 unfold mdF;cases hasRF c with
 |true=>exact .inr rfl
 |false=>cases anyY vs with
  |true=>exact .inr rfl
  |false=>exact .inl rfl
theorem onX'_some{r:RT}{k:T->Option (SV×Hs)}{v:SV×Hs}(h:runF.onX' r k=some v):∃e S,r=some (e,S)/\(e=.nm\/e=.rt)/\k S=some v:=by
 cases r with
 |none=>cases h
 |some p=>
  obtain⟨e,S⟩:=p;cases e with
  |nm=>exact⟨_,S,rfl,.inl rfl,h⟩
  |rt=>exact⟨_,S,rfl,.inr rfl,h⟩
  |xt id=>cases h
theorem isDf_ok{b:HB}(h:b.isDf=true):b=.df:=by
 cases b<;>first|rfl|cases h
def calm(Q:Exit->Act->World->Prop):Exit->Act->World->Prop
 |.panic _,_,_=>False
 |e,a,w=>Q e a w
theorem calm_le{Q:Exit->Act->World->Prop}:∀e a w,calm Q e a w->Q e a w:=by
 intro e a w h;cases e<;>first|exact h|cases h
theorem calm_np{Q:Exit->Act->World->Prop}:NoP (calm Q):=fun _ _ _ h=>h
theorem C_mono{P:Program}{n:Md}{Q Q':Exit->Act->World->Prop}{c:Code}{F:Nat->Value}{w:World}(hq:∀e a w,Q e a w->Q' e a w)(h:Go.Wk.C P n Q c F w):Go.Wk.C P n Q' c F w:=by
 obtain⟨k,D,ro⟩:=n;unfold Go.Wk.C CC at h⊢;cases ro with
 |none=>exact Code.wp_mono hq h
 |some x=>exact Code.wpIn_mono hq h
theorem body_ok(hC:Cok C Gp)(hK:KsOk C Gp K)(k:Nat):ala C Gp (bodyE C K k) k:=by
 intro vs H v H' hv w0 E w hg inv hok;obtain⟨fn,h1,hv⟩:=aaa hv;obtain⟨c,h2,hv⟩:=aaa hv;obtain⟨h3,hv⟩:=aaf hv;have hlen:(vs.map (SV.re E)).length<=fn.ntmps:=by rw [aam,acj]at h3;simpa using h3
 refine⟨⟨fn,c,h1,h2,hC.ng k fn h1⟩, ?_⟩
 obtain⟨e,S,hx,he,hv⟩:=onX'_some hv;obtain⟨hD,hv⟩:=aaf hv;obtain⟨S2,hu,hv⟩:=aaa hv;obtain⟨azq,hr,hv⟩:=aaa hv;cases hv
 have hat:At C Gp ⟨fn.ntmps,mdF c vs⟩ ⟨setL .e 0 vs,H,none⟩ w0 E w:=by
  refine⟨inv,setL_ok hok,hg,fun l hl=> ?_,fun r hr=>by cases hr⟩
  rcases mdF_two c vs with h|h
  ·have hl':mdF c vs=some (some l):=hl;rw [h]at hl';cases hl'
  ·have hl':mdF c vs=some (some l):=hl;rw [h]at hl';cases hl'
 rcases mdF_two c vs with hm|hm
 ·rw [hm]at hx hat hD;have hDn:S.D=none:=by
   cases hd:S.D with
   |none=>rfl
   |some d=>rw [hd]at hD;cases hD
  have hS:S=S2:=by
   unfold undf at hu;rw [hDn]at hu;exact Option.some.inj hu
  subst hS;refine enter (k:=fn.ntmps) h1 h2 rfl hlen ?_;rw [<-setL_args];refine exec_ok hC hK c _ _ e S hx w0 E w _ hat aff ?_;intro E' w' a' n' at';obtain⟨q1,q2⟩:=results_ok hC at' hr [] none;have hres:∃E',Ag H.nx E E'/\H.nx<=S.H.nx/\Inv w0 E' S.H w'/\(oneV azq).ok S.H.nx/\(oneV azq).re E'=(oneV azq).re E':=⟨E',a',n',at'.inv,q2,rfl⟩
  rw [hDn];have hres:∃E'',Ag H.nx E E''/\H.nx<=S.H.nx/\Inv w0 E'' S.H w'/\(oneV azq).ok S.H.nx/\(oneV azq).re E'=(oneV azq).re E'':=⟨E',a',n',at'.inv,q2,rfl⟩
  rcases he with rfl|rfl
  ·exact⟨rfl,_,q1,_,rfl,hres⟩
  ·exact⟨rfl,_,q1,_,rfl,hres⟩
 ·rw [hm]at hx hat;refine enterM (k:=fn.ntmps) h1 h2 rfl hlen ?_;rw [<-setL_args];refine C_mono (Q:=calm (bodyPostM Fence.wide 0 C.P fn fun e w'=>∃v,e=.returned v/\∃E'',Ag H.nx E E''/\H.nx<=S2.H.nx/\Inv w0 E'' S2.H w'/\(oneV azq).ok S2.H.nx/\v=(oneV azq).re E'')) calm_le ?_;refine exec_ok hC hK c _ _ e S hx w0 E w _ hat calm_np ?_;intro E' w' a' n' at'
  suffices hs:bodyPostM Fence.wide 0 C.P fn (fun e w'=>∃v,e=.returned v/\∃E'',Ag H.nx E E''/\H.nx<=S2.H.nx/\Inv w0 E'' S2.H w'/\(oneV azq).ok S2.H.nx/\v=(oneV azq).re E'') .ret (fr (arl E' ⟨fn.ntmps,some none⟩ S.D) (rF E' S.F)) w' by
   rcases he with rfl|rfl
   ·exact m_norm hs
   ·exact hs
  cases hd:S.D with
  |none=>
   have hS:S=S2:=by
    unfold undf at hu;rw [hd]at hu;exact Option.some.inj hu
   subst hS;obtain⟨q1,q2⟩:=results_ok hC at' hr [] none;exact m_res0 ⟨_,q1,E',a',n',at'.inv,q2,rfl⟩
  |some d=>
   unfold undf at hu;rw [hd]at hu;obtain⟨b,hb,hu⟩:=aaa (show(ob (S.H.t.get d) fun b=>bi b.isDf (some (⟨S.F,S.H.upd d .gn,none⟩:T)) none)=some S2 from hu);obtain⟨hb2,hu⟩:=aaf hu;cases hu
   obtain rfl:=isDf_ok hb2;have hlt:d<S.H.nx:=at'.inv.lt d _ hb;have hk:(alr E' S.H)[d]? =some (dfr (E' d).1):=at'.inv.at hb;refine m_res1 at'.inv.hp d (E' d).1 hk ?_;intro w2 hp2;have hlen2:d<(alr E' S.H).length:=by rw [aph];exact hlt
   have hp3:=(hp2.front d _ (List.getElem?_set_self hlen2)).tail;rw [List.eraseIdx_set_eq]at hp3;have inv2:Inv w0 E' (S.H.upd d .gn) w2:=at'.inv.upd hlt trivial (Hp.perm (hp_gn hp3) (set_perm _ _ _ hlen2).symm);have at2:At C Gp ⟨fn.ntmps,none⟩ ⟨S.F,S.H.upd d .gn,none⟩ w0 E' w2:=⟨inv2,at'.fok,at'.gp,fun l hl=>(by cases hl),fun r hr=>(by cases hr)⟩
   obtain⟨q1,q2⟩:=results_ok hC at2 hr [] none;exact⟨_,q1,E',a',n',inv2,q2,rfl⟩
theorem sc_pl{x:SC}(h:x.pl=true)(n:Nat)(E E':En):x.ok n/\x.re E=x.re E':=by
 cases x with
 |p i o=>cases h
 |sl i o m c=>cases h
 |y i=>cases h
 |m i=>cases h
 |z i b dd off=>cases h
 |fn f l=>
  cases l with
  |nil=>exact⟨fun i hi=>(by cases hi),rfl⟩
  |cons a l=>cases h
 |_=>exact⟨trivial,rfl⟩
theorem plL_ok{l:List SC}(n:Nat)(E E':En):plL l=true->(∀x∈l,x.ok n)/\l.map (SC.re E)=l.map (SC.re E'):=by
 induction l with
 |nil=>exact fun _=>⟨fun x hx=>(by cases hx),rfl⟩
 |cons x l ih=>
  intro h;obtain⟨h1,h2⟩:=bb2 (show bi x.pl (plL l) false=true from h);obtain⟨i1,i2⟩:=ih h2;obtain⟨j1,j2⟩:=sc_pl h1 n E E';refine⟨fun y hy=> ?_,by rw [zaC,zaC,i2,j2]⟩
  rcases List.mem_cons.1 hy with rfl|hy
  ·exact j1
  ·exact i1 y hy
theorem sa_pl{x:SA}(h:x.pl=true)(n:Nat)(E E':En):x.ok n/\x.re E=x.re E':=by
 cases x with
 |c x=>exact sc_pl h n E E'
 |a l=>obtain⟨h1,h2⟩:=plL_ok n E E' (show plL l=true from h);exact⟨h1,by simp only [SA.re];rw [h2]⟩
theorem plT_ok{l:List SA}(n:Nat)(E E':En):plT l=true->(∀x∈l,x.ok n)/\l.map (SA.re E)=l.map (SA.re E'):=by
 induction l with
 |nil=>exact fun _=>⟨fun x hx=>(by cases hx),rfl⟩
 |cons x l ih=>
  intro h;obtain⟨h1,h2⟩:=bb2 (show bi x.pl (plT l) false=true from h);obtain⟨i1,i2⟩:=ih h2;obtain⟨j1,j2⟩:=sa_pl h1 n E E';refine⟨fun y hy=> ?_,by rw [zaC,zaC,i2,j2]⟩
  rcases List.mem_cons.1 hy with rfl|hy
  ·exact j1
  ·exact i1 y hy
theorem sv_pl{x:SV}(h:x.pl=true)(n:Nat)(E E':En):x.ok n/\x.re E=x.re E':=by
 cases x with
 |c x=>exact sc_pl h n E E'
 |a l=>obtain⟨h1,h2⟩:=plL_ok n E E' (show plL l=true from h);exact⟨h1,by simp only [SV.re];rw [h2]⟩
 |t l=>obtain⟨h1,h2⟩:=plT_ok n E E' (show plT l=true from h);exact⟨h1,by simp only [SV.re];rw [h2]⟩
 |u=>exact⟨trivial,rfl⟩
theorem plV_ok{l:List SV}(n:Nat)(h:plV l=true):∀x∈l,x.ok n:=by
 induction l with
 |nil=>exact fun x hx=>by cases hx
 |cons x l ih=>
  obtain⟨h1,h2⟩:=bb2 (show bi x.pl (plV l) false=true from h);intro y hy;rcases List.mem_cons.1 hy with rfl|hy
  ·exact(sv_pl h1 n (fun _=>(0,0)) (fun _=>(0,0))).1
  ·exact ih h2 y hy
def Xok(C:Cx)(Gp:World->Prop):Prop:=∀k f,C.X k=some f->ala C Gp f k
theorem callK_ok(hC:Cok C Gp)(hX:Xok C Gp)(hK:KsOk C Gp K)(k:Nat):ala C Gp (callK C K k) k:=by
 intro vs H v H' hv w0 E w hg inv hok;unfold callK at hv;cases hx:C.X k with
 |some f=>
  rw [hx]at hv;exact hX k f hx vs H v H' hv w0 E w hg inv hok
 |none=>
  rw [hx]at hv;have hv:bi (C.pure k) (bi (plV vs) (ob (bodyE C K k vs H0) fun r=>bi r.1.pl (some (r.1,H)) none) none) (bodyE C K k vs H)=some (v,H'):=hv;rw [abu]at hv;split at hv
  ·obtain⟨hp,hv⟩:=aaf hv;obtain⟨r,h1,hv⟩:=aaa hv;obtain⟨h2,hv⟩:=aaf hv;cases hv
   obtain⟨hE,hc⟩:=body_ok hC hK k vs H0 r.1 r.2 h1 w E w (hC.gp hg inv.hp) (inv_bare E 0 w) (plV_ok 0 hp);refine⟨hE,CR.mono hc ?_⟩
   rintro V w' ⟨E',g1,g2,g3,g4,rfl⟩
   exact⟨E,Ag.refl _ _,zah _,⟨inv.hp.call g3.hp.nil,inv.lt,inv.ok⟩,(sv_pl h2 _ E E).1,(sv_pl h2 0 E' E).2⟩
  ·exact body_ok hC hK k vs H v H' hv w0 E w hg inv hok
theorem lev_ok(hC:Cok C Gp)(hX:Xok C Gp):∀n,KsOk C Gp (lev C n)
 |0=>⟨fun k vs H v H' hv=>(by cases hv),fun c m S e S' hv=>(by cases hv)⟩
 |n+1=>⟨fun k=>callK_ok hC hX (lev_ok hC hX n) k,fun c=>exec_ok hC (lev_ok hC hX n) c⟩
theorem run_says(hC:Cok C Gp)(hX:Xok C Gp){n k:Nat}{vs:List SV}{v:SV}{H':Hs}(h:(lev C n).call k vs H0=some (v,H'))(hp:plV vs=true)(hp':v.pl=true)(hg:Gp w)(E:En):
  Enters C.P k/\CR C.P k (vs.map (SV.re E)) w fun V w'=>V=v.re E/\Hp w [] [] w':=by
 obtain⟨hE,hc⟩:=(lev_ok hC hX n).call k vs H0 v H' h w E w hg (inv_bare E 0 w) (plV_ok 0 hp);refine⟨hE,CR.mono hc ?_⟩
 rintro V w' ⟨E',g1,g2,g3,g4,rfl⟩
 exact⟨(sv_pl hp' 0 E' E).2,g3.hp.nil⟩
end
open Go.Wk Go.Px
open Go.Lib renaming join -> zax
open List renaming flatMap_cons -> zaJ, length -> zaT, length_append -> zae, length_map -> zaA, map_cons -> zaC, mem_cons_of_mem -> zaD, mem_cons_self -> zaI, rec -> zaX, take_of_length_le -> zaQ
open Nat renaming add -> zaZ, beq -> zam, ble -> zaq, le_refl -> zah, mod -> zbl, mul_le_mul_right -> zaB
open Option renaming rec -> zan
open UInt8 renaming ofNat -> zaM
theorem cvc_pl{v:Value}{x:SC}(h:cvc v=some x):x.pl=true:=by
 unfold cvc at h;split at h
 all_goals first|(cases h;rfl)|(obtain⟨_,h⟩:=aaf h;cases h;rfl)|cases h
theorem cvs_pl:∀{vs:List Value} {l:List SC},cvs vs=some l->plL l=true
 |[],l,h=>by cases h;rfl
 |v::vs,l,h=>by
  obtain⟨x,h1,h⟩:=aaa h;obtain⟨xs,h2,h⟩:=aaa h;cases h
  show bi x.pl (plL xs) false=true;rw [cvc_pl h1,cvs_pl h2];rfl
theorem cv_pl{v:Value}{x:SV}(h:cv v=some x):x.pl=true:=by
 unfold cv at h;split at h
 ·obtain⟨xs,h1,h⟩:=aaa h;cases h
  exact cvs_pl h1
 ·obtain⟨y,h1,h⟩:=aaa h;cases h
  exact cvc_pl h1
noncomputable def cvl(l:List Value):Option (List SA):=zaX (some []) (fun v _ r=>ob (cv v) fun x=>ob x.sa fun a=>ob r fun q=>some (a::q)) l
noncomputable def cvT(l:List Value):Option SV:=ob (cvl l) fun q=>some (.t q)
theorem sa_pl'{x:SV}{a:SA}(h:x.sa=some a)(hp:x.pl=true):a.pl=true:=by
 cases x<;>first|(cases h;exact hp)|cases h
theorem cvl_ok(E:En):∀{l:List Value} {q:List SA},cvl l=some q->q.map (SA.re E)=l/\plT q=true
 |[],q,h=>by
  have e:[]=q:=Option.some.inj h;subst e;exact⟨rfl,rfl⟩
 |v::l,q,h=>by
  obtain⟨x,h1,h⟩:=aaa h;obtain⟨a,h2,h⟩:=aaa h;obtain⟨q',h3,h⟩:=aaa h;cases h
  obtain⟨i1,i2⟩:=cvl_ok E (show cvl l=some q' from h3);refine⟨by rw [zaC,i1,SV.sa_r h2,(cv_ok h1 E 0).1], ?_⟩
  show bi a.pl (plT q') false=true;rw [sa_pl' h2 (cv_pl h1),i2];rfl
theorem cvT_ok{l:List Value}{v:SV}(h:cvT l=some v)(E:En):v.re E=.tuple l.toArray/\v.pl=true:=by
 obtain⟨q,h1,h⟩:=aaa h;cases h
 obtain⟨h2,h3⟩:=cvl_ok E h1;exact⟨by simp only [SV.re];rw [h2],h3⟩
noncomputable def xs2(f:Str->Str->Option SV)(vs:List SV)(H:Hs):Option (SV×Hs):=
 match vs with
 |[.c (.s l x),.c (.s m y)]=>ob (f (dec l x) (dec m y)) fun v=>some (v,H)
 |_=>none
noncomputable def xsb(f:Str->UInt8->Option SV)(vs:List SV)(H:Hs):Option (SV×Hs):=
 match vs with
 |[.c (.s l x),.c (.i .u8 n)]=>ob (f (dec l x) (zaM n)) fun v=>some (v,H)
 |_=>none
noncomputable def xi(f:Int->Option SV)(vs:List SV)(H:Hs):Option (SV×Hs):=
 match vs with
 |[.c (.i .i64 n)]=>ob (f (ures .i64 (zbl n (km .i64)))) fun v=>some (v,H)
 |_=>none
noncomputable def cstOf(xs:List SC):Option (List Str):=zaX (some []) (fun x _ r=>ob x.asS fun q=>ob r fun l=>some (dec q.1 q.2::l)) xs
noncomputable def hcut(H:Hs)(i base n:Nat):Option (List SC):=ob (cellsOf ⟨.e,H,none⟩ i) fun xs=>bi (zaq (zaZ base n) (arb xs)) (some (ltake (ldrop xs base) n)) none
noncomputable def splR(et:Nat)(H:Hs)(r:List Str):Option (SV×Hs):=
 bi r.isEmpty none (some (.c (.sl H.nx (nat_lit 0) (arb r) (.r (nat_lit 0))),H.add (.cl et (.rw (nat_lit 1) (arb r)) (r.map fun a=>.s (arb a) (enc a)))))
noncomputable def xsplit(et:Nat)(vs:List SV)(H:Hs):Option (SV×Hs):=
 match vs with
 |[.c (.s l x),.c (.s m y)]=>bi (zam m (nat_lit 1)) (bi (zaq l (nat_lit 1000000000)) (splR et H (spl (zaM y) (dec l x))) none) none
 |_=>none
noncomputable def xjoin(vs:List SV)(H:Hs):Option (SV×Hs):=
 match vs with
 |[.c (.sl i base n c),.c (.s m y)]=>bi (capOk ⟨.e,H,none⟩ i n c) (ob (hcut H i base n) fun xs=>ob (cstOf xs) fun l=>bi (zaq (arb l) (nat_lit 1000000000)) (bi (zaq (arb (zax l (dec m y))) (nat_lit 100000000000))
  (ob (cv (str (zax l (dec m y)))) fun v=>some (v,H)) none) none) none
 |[.c .ns,.c (.s m y)]=>ob (cv (str [])) fun v=>some (v,H)
 |_=>none
noncomputable def xccR(t i:Nat)(H:Hs)(a s:SC):Option (SV×Hs):=
 bi (zan a.isPt (fun p=>bi (zam p.1 i) (zam p.2 (nat_lit 0)) false) a.asP) (some (.t [],H.upd i (.cl t .ex [.p i (nat_lit 0),s]))) none
noncomputable def xcc(t:Nat)(vs:List SV)(H:Hs):Option (SV×Hs):=
 match vs with
 |[.c (.p i o)]=>bi (zam o (nat_lit 0)) (ob (H.t.get i) fun b=>ob b.asC fun q=>bi (zam q.1 t) (bi (Mo.rec true (fun _ _=>false) false false q.2.1) (match q.2.2 with
  |[a,s]=>xccR t i H a s
  |_=>none) none) none) none
 |_=>none
section
variable {C : Cx} {Gp : World -> Prop} {w0 w : World} {E E' : En} {H : Hs} {k : Nat}
theorem ext_plain(hC:Cok C Gp)(hE:Enters C.P k){vs:List SV}{v:SV}(hp:v.pl=true)(hc:∀E w,Gp w->CR C.P k (vs.map (SV.re E)) w fun V w'=>V=v.re E/\Hp w [] [] w')(hg:Gp w0)(inv:Inv w0 E H w):
  Enters C.P k/\CR C.P k (vs.map (SV.re E)) w fun V w'=>∃E',Ag H.nx E E'/\H.nx<=H.nx/\Inv w0 E' H w'/\v.ok H.nx/\V=v.re E':=by
 refine⟨hE,CR.mono (hc E w (hC.gp hg inv.hp)) ?_⟩
 rintro V w' ⟨rfl,hp'⟩
 exact⟨E,Ag.refl _ _,zah _,⟨inv.hp.call hp',inv.lt,inv.ok⟩,(sv_pl hp _ E E).1,rfl⟩
theorem xs2_ok(hC:Cok C Gp)(hE:Enters C.P k){f:Str->Str->Option SV}(hf:∀a b v,f a b=some v->v.pl=true/\∀E w,Gp w->CR C.P k [str a,str b] w fun V w'=>V=v.re E/\Hp w [] [] w'):ala C Gp (xs2 f) k:=by
 intro vs H v H' hv w0 E w hg inv hok;unfold xs2 at hv;split at hv
 ·rename_i l x m y;obtain⟨u,h1,hv⟩:=aaa hv;cases hv
  obtain⟨h2,h3⟩:=hf _ _ _ h1;exact ext_plain hC hE h2 (fun E w hw=>h3 E w hw) hg inv
 ·cases hv
theorem xsb_ok(hC:Cok C Gp)(hE:Enters C.P k){f:Str->UInt8->Option SV}(hf:∀a b v,f a b=some v->v.pl=true/\∀E w,Gp w->CR C.P k [str a,bt b] w fun V w'=>V=v.re E/\Hp w [] [] w'):ala C Gp (xsb f) k:=by
 intro vs H v H' hv w0 E w hg inv hok;unfold xsb at hv;split at hv
 ·rename_i l x n;obtain⟨u,h1,hv⟩:=aaa hv;cases hv
  obtain⟨h2,h3⟩:=hf _ _ _ h1;refine ext_plain hC hE h2 (fun E w hw=> ?_) hg inv;have e:(SV.c (.i .u8 n)).re E=bt (zaM n):=by
   show Value.int .u8 (IntKind.u8.wrap n)=Value.int .u8 ((zaM n).toNat:Int);congr 1
  have:=h3 E w hw
  rw [<-e]at this;exact this
 ·cases hv
theorem xi_ok(hC:Cok C Gp)(hE:Enters C.P k){f:Int->Option SV}(hf:∀z v,f z=some v->v.pl=true/\∀E w,Gp w->(-9223372036854775808<=z/\z<=9223372036854775807)->CR C.P k [.int .i64 z] w fun V w'=>V=v.re E/\Hp w [] [] w'):ala C Gp (xi f) k:=by
 intro vs H v H' hv w0 E w hg inv hok;unfold xi at hv;split at hv
 ·rename_i n;obtain⟨u,h1,hv⟩:=aaa hv;cases hv
  obtain⟨h2,h3⟩:=hf _ _ h1;refine ext_plain hC hE h2 (fun E w hw=> ?_) hg inv;have hlt:n%km .i64<18446744073709551616:=Nat.mod_lt _ (by decide);have hb: -9223372036854775808<=ures .i64 (n%km .i64)/\ures .i64 (n%km .i64)<=9223372036854775807:=by
   generalize n%km .i64=z at hlt⊢;rw [ures_eq];have e1:kh .i64=9223372036854775808:=rfl;have e2:km .i64=18446744073709551616:=rfl;rw [e2,e1];split
   ·omega
   ·constructor
    ·exact Int.le_trans (by decide) (Int.natCast_nonneg z)
    ·have:z<=9223372036854775807:=by omega
     exact Int.ofNat_le.2 this
  have:=h3 E w hw hb
  have e:(SV.c (.i .i64 n)).re E=.int .i64 (ures .i64 (n%km .i64)):=by
   show Value.int .i64 (IntKind.i64.wrap n)=_;rw [ati]
  rw [show List.map (SV.re E) [SV.c (.i .i64 n)]=[(SV.c (.i .i64 n)).re E]from rfl,e];exact this
 ·cases hv
theorem row_call(inv:Inv w0 E H w){α:Type}{f:α->List Value}{e sz cap:Nat}{o:Option Nat}{a:Option Addr}{l:List α}{w':World}{xs:List SC}(hp:Hp w [] [rwt f e sz o a cap l] w')(hne:l≠[])(hx:xs.map (SC.re E)=l.flatMap f)
  (hok:∀x∈xs,x.ok H.nx) (hl:xs.length=l.length*sz):∃E',Ag H.nx E E'/\Inv w0 E' (H.add (.cl e (.rw sz l.length) xs)) w'/\Value.slice a l.length cap=(SV.c (.sl H.nx 0 l.length (.r 0))).re E':=by
 rcases(hp.res _ zaI).1 with⟨_,h,_,_⟩|⟨g,cur,ho,ha,hob,h1,h2,h3,h4⟩
 ·exact absurd h hne
 ·subst ha;have ho':o=some g:=ho;subst ho';refine⟨eat E H.nx (g,cap),apk _ _ _, ?_, ?_⟩
  ·refine inv.add (apk _ _ _) (okUp hok) ?_;refine hp_weak (k:=0) (inv.hp.callL hp) rfl ?_ ?_
   ·simp only [resOf,cres,adb];rfl
   ·show(resOf (eat E H.nx (g,cap)) H.nx (.cl e (.rw sz l.length) xs)).holds w'
    unfold Res.holds;simp only [resOf,cres,adb];rw [scs_ext (apk E H.nx _) hok,hx];have hxl:(l.flatMap f).length=l.length*sz:=by rw [<-hx,zaA,hl]
    have hle:l.length*sz<=cap*sz:=zaB _ h1;refine⟨cur,e,(0,0),hob,.inr rfl,by rw [hxl,h3];exact hle,by rw [hxl];exact h4,hxl,h1,h2,h3,rfl⟩
  ·simp only [SV.re,SC.re,adb,Cp.re,Nat.sub_zero]
theorem str_scs(E:En)(r:List Str):(r.map fun a=>SC.s (arb a) (enc a)).map (SC.re E)=r.flatMap eS:=by
 induction r with
 |nil=>rfl
 |cons a r ih=>
  rw [zaC,zaC,ih,zaJ];show str (dec (arb a) (enc a))::_=[str a]++_;rw [acj,dec_enc];rfl
theorem xsplit_ok(hC:Cok C Gp)(hE:Enters C.P k){et:Nat}(hf:∀s c w,Gp w->s.length<=1000000000->CR C.P k [str s,str [c]] w fun v w'=>∃o a cap,v=.slice a (spl c s).length cap/\Hp w [] [rwt eS et 1 o a cap (spl c s)] w'):ala C Gp (xsplit et) k:=by
 intro vs H v H' hv w0 E w hg inv hok;unfold xsplit at hv;split at hv
 ·rename_i l x m y;obtain⟨h1,hv1⟩:=aaf hv;obtain⟨h2,hv2⟩:=aaf hv1;clear hv hv1;rw [aao]at h1;have h1:m=1:=h1;subst h1;rw [aam]at h2;unfold splR at hv2;generalize hr:spl (zaM y) (dec l x)=r at hv2;rw [abu]at hv2;split at hv2
  ·cases hv2
  ·rename_i hne;cases hv2
   have hne':r≠[]:=fun e=>hne (by rw [e];rfl)
   refine⟨hE, ?_⟩
   have e:[SV.c (.s l x),SV.c (.s 1 y)].map (SV.re E)=[str (dec l x),str [zaM y]]:=by
    show [str (dec l x),str (dec 1 y)]=_
    have:dec 1 y=[zaM y]:=by
     simp only [dec];congr 1
     apply UInt8.toNat_inj.1
     simp [UInt8.toNat_ofNat']
    rw [this]
   rw [e];refine CR.mono (hf (dec l x) (zaM y) w (hC.gp hg inv.hp) (by rw [adx];exact h2)) ?_;rintro V w' ⟨o,a,cap,rfl,hp⟩
   rw [hr]at hp⊢;have hlen:(r.map fun a=>SC.s (arb a) (enc a)).length=r.length*1:=by simp
   obtain⟨E',g1,g2,g3⟩:=row_call inv hp hne' (str_scs E r) (fun x hx=>by obtain⟨a,_,rfl⟩:=List.mem_map.1 hx;trivial) hlen;refine⟨E',g1,Nat.le_succ _, ?_, ?_, ?_⟩
   ·rw [acj];exact g2
   ·show H.nx<H.nx+1;omega
   ·rw [acj];exact g3
 ·cases hv
theorem cst_ok(E:En):∀{xs:List SC} {l:List Str},cstOf xs=some l->xs.map (SC.re E)=l.flatMap eS
 |[],l,h=>by
  have e:[]=l:=Option.some.inj h;subst e;rfl
 |x::xs,l,h=>by
  obtain⟨q,h1,h⟩:=aaa h;obtain⟨r,h2,h⟩:=aaa h;cases h
  rw [asS_ok h1,zaC,cst_ok E (show cstOf xs=some r from h2)];rfl
theorem flat_len:∀l:List Str,(l.flatMap eS).length=l.length
 |[]=>rfl
 |a::l=>by rw [zaJ,zae,flat_len l];simp [eS];omega
theorem hcut_rd(inv:Inv w0 E H w){i base n:Nat}{xs:List SC}(h:hcut H i base n=some xs):Rd w (some ⟨(E i).1,base,none⟩) (xs.map (SC.re E))/\xs.length=n:=by
 obtain⟨ys,h1,h⟩:=aaa h;obtain⟨h2,h⟩:=aaf h;cases h
 rw [aam,acj]at h2;rw [aqy,ldrop_eq];obtain⟨t,md,hb⟩:=cellsOf_ok h1;refine⟨fun j v hj=>⟨_,rfl, ?_⟩, ?_⟩
 ·rw [acl];rw [List.getElem?_map]at hj;obtain⟨x,hx,rfl⟩:=Option.map_eq_some_iff.1 hj;rw [List.getElem?_take]at hx;split at hx
  ·rw [List.getElem?_drop]at hx;exact inv.cell hb hx
  ·cases hx
 ·have h2:base+n<=ys.length:=h2;simp;omega
theorem xjoin_ok(hC:Cok C Gp)(hE:Enters C.P k) (hf:∀(t:Str) (w:World) (a:Option Addr) (n cap:Nat) (xs:List Str),n=xs.length->Rd w a (xs.flatMap eS)->n<=cap->xs.length<=1000000000/\(zax xs t).length<=100000000000->
  CR C.P k [.slice a n cap,str t] w fun v w'=>v=str (zax xs t)/\Hp w [] [] w'):ala C Gp xjoin k:=by
 intro vs H v H' hv w0 E w hg inv hok;unfold xjoin at hv;split at hv
 ·rename_i i base n c m y;obtain⟨h1,hv⟩:=aaf hv;obtain⟨xs,h2,hv⟩:=aaa hv;obtain⟨l,h3,hv⟩:=aaa hv;obtain⟨h4,hv⟩:=aaf hv;obtain⟨h5,hv⟩:=aaf hv;obtain⟨u,h6,hv⟩:=aaa hv;cases hv
  rw [aam,acj]at h4 h5;refine⟨hE, ?_⟩
  obtain⟨r1,r2⟩:=hcut_rd inv h2;have e1:=cst_ok E h3;rw [e1]at r1;have e2:n=l.length:=by
   have:=congrArg zaT e1
   rw [zaA,r2]at this;rw [this,flat_len]
  have hcap:n<=c.re E i:=by
   cases c with
   |k cc=>have h':zaq n cc=true:=h1;rw [aam]at h';exact h'
   |r off=>
    have hsd:Sd ⟨C.P,fun _=>none,C.X,C.pure,C.V⟩ ⟨0,none⟩ ⟨.e,H,none⟩ ⟨0,[],none⟩ w0 E w:=⟨rfl,inv,fun t v h=>(by rw [Tr.get_e]at h;cases h),fun g cs h=>(by cases h)⟩
    have:=room_ok hsd (show room ⟨.e,H,none⟩ i (off+n)=true from h1)
    show n<=(E i).2-off;omega
  refine CR.mono (hf (dec m y) w (some ⟨(E i).1,base,none⟩) n (c.re E i) l e2 r1 hcap ⟨h4,h5⟩) ?_;rintro V w' ⟨rfl,hp'⟩
  exact⟨E,Ag.refl _ _,zah _,⟨inv.hp.call hp',inv.lt,inv.ok⟩,(cv_ok h6 E _).2,(cv_ok h6 E 0).1.symm⟩
 ·rename_i m y;obtain⟨u,h6,hv⟩:=aaa hv;cases hv
  refine⟨hE, ?_⟩
  refine CR.mono (hf (dec m y) w none 0 0 [] rfl (fun j v h=>by simp at h) (zah _) ⟨by simp,by simp [zax]⟩) ?_;rintro V w' ⟨rfl,hp'⟩
  exact⟨E,Ag.refl _ _,zah _,⟨inv.hp.call hp',inv.lt,inv.ok⟩,(cv_ok h6 E _).2,(cv_ok h6 E 0).1.symm⟩
 ·cases hv
theorem xcc_ok(hC:Cok C Gp)(hE:Enters C.P k){t:Nat} (hf:∀(b:Nat) (z:Bool) (s:Value) (w:World),Hp w (afe [blk b [Value.pointer (bif z then some ⟨b,0,none⟩else none),s] t]) [blk b [Value.pointer (bif z then some ⟨b,0,none⟩else none),s] t] w->
  CR C.P k [Value.pointer (some ⟨b,0,none⟩)] w fun v w'=>v=.tuple #[]/\Hp w (afe [blk b [Value.pointer (bif z then some ⟨b,0,none⟩else none),s] t]) [blk b [Value.pointer (some ⟨b,0,none⟩),s] t] w'):ala C Gp (xcc t) k:=by
 intro vs H v H' hv w0 E w hg inv hok;unfold xcc at hv;split at hv
 ·rename_i i o;obtain⟨h1,hv1⟩:=aaf hv;obtain⟨b,h2,hv2⟩:=aaa hv1;obtain⟨q,h3,hv3⟩:=aaa hv2;obtain⟨h4,hv4⟩:=aaf hv3;obtain⟨h5,hv5⟩:=aaf hv4;clear hv hv1 hv2 hv3 hv4;obtain⟨t',md,xs⟩:=q;rw [hbC_ok h3]at h2;rw [aao]at h1 h4;have h1:o=0:=h1;have h4:t'=t:=h4;subst h1;subst h4;cases md with
  |rw sz mm=>cases h5
  |bw=>cases h5
  |fb=>cases h5
  |ex=>
   split at hv5
   ·rename_i a s hxs;have hxs:xs=[a,s]:=hxs;subst hxs;obtain⟨h6,h7⟩:=aaf (show bi (zan a.isPt (fun p=>bi (zam p.1 i) (zam p.2 0) false) a.asP) (some (SV.t [],H.upd i (.cl t' .ex [.p i 0,s]))) none=some (v,H')from hv5);cases h7
    have h2:H.t.get i=some (.cl t' .ex [a,s]):=h2;have hz:∃z:Bool,a.re E=Value.pointer (bif z then some ⟨(E i).1,0,none⟩else none):=by
     cases a<;>first|exact⟨false,rfl⟩|cases h6|skip
     obtain⟨g1,g2⟩:=bb2 h6;rw [aao]at g1 g2;have g1:_=i:=g1;have g2:_=0:=g2;subst g1;subst g2;exact⟨true,rfl⟩
    obtain⟨z,hz⟩:=hz;obtain⟨cur,tt,fz,c1,c2,c3,c4,c5⟩:=inv.cells h2;have ht:tt=t':=by
     rcases c2 with h|h
     ·cases h
     ·exact h
    subst ht;obtain⟨c6,c7⟩:=c5;subst c7;have hcur:cur=[a.re E,s.re E].toArray:=by
     apply Array.toList_inj.1
     have c6':cur.size=2:=c6
     have:=c4
     rw [zaQ (by simp [c6'])]at this;rw [this];rfl
    rw [hcur,hz]at c1;have hst:=Hp.start1 c1;refine⟨hE,CR.mono (hf (E i).1 z (s.re E) w hst) ?_⟩
    rintro V w' ⟨rfl,hp2⟩
    have hi:=inv.lt i _ h2;have hp0:=inv.hp.front i _ (inv.at h2);have hp1:Hp w0 [] ([blk (E i).1 [Value.pointer (bif z then some ⟨(E i).1,0,none⟩else none),s.re E] tt]++(alr E H).eraseIdx i) w:=
     hp_weak (k:=0) (r':=blk (E i).1 [Value.pointer (bif z then some ⟨(E i).1,0,none⟩else none),s.re E] tt) hp0 rfl rfl (by show w.heap[(E i).1]? =_;exact c1)
    have hp3:=hp1.callK hp2;have hb3:w'.heap[(E i).1]? =some (.cells [Value.pointer (some ⟨(E i).1,0,none⟩),s.re E].toArray tt (0,0)):=(hp3.res _ zaI).1;have hp4:Hp w0 [] (resOf E i (.cl tt .ex [.p i 0,s])::(alr E H).eraseIdx i) w':=
     hp_weak (k:=0) (r':=resOf E i (.cl tt .ex [.p i 0,s])) hp3 rfl rfl ⟨_,tt,(0,0),hb3,.inr rfl,by simp,by simp [SC.re],rfl,rfl⟩
    refine⟨E,Ag.refl _ _,zah _,inv.upd hi ?_ (Hp.perm hp4 (set_perm _ _ _ (by rw [aph];exact hi)).symm),(fun x hx=>by cases hx),rfl⟩
    intro x hx;have hok2:=inv.ok i _ h2;rcases List.mem_cons.1 hx with rfl|hx
    ·exact hi
    ·exact hok2 x (zaD _ hx)
   ·cases hv5
 ·cases hv
end
noncomputable def isT(r:Option (SV×Hs)):Bool:=zan false (fun p=>SV.rec (fun x=>zan false (fun b=>b) x.asB) (fun _=>false) (fun _=>false) false p.1) r
theorem isT_ok{r:Option (SV×Hs)}(h:isT r=true):∃H',r=some (.c (.b true),H'):=by
 cases r with
 |none=>cases h
 |some p=>
  obtain⟨v,H⟩:=p;cases v with
  |c x=>
   have h':(zan false (fun b=>b) x.asB:Bool)=true:=h;cases hb:x.asB with
   |none=>rw [hb]at h';cases h'
   |some b=>
    rw [hb]at h';have h':b=true:=h';subst h';rw [asB_ok hb];exact⟨H,rfl⟩
  |_=>cases h
open Go.Wk
open List renaming rec -> zaX
open Nat renaming beq -> zam
open Option renaming rec -> zan
noncomputable def memo(l:List (List SV×SV))(vs:List SV)(H:Hs):Option (SV×Hs):=zaX none (fun p _ r=>bi (eqL SV.eqb vs p.1) (some (p.2,H)) r) l
noncomputable def aur(C:Cx)(n k:Nat)(p:List SV×SV):Bool:=bi (plV p.1) (bi p.2.pl (zan false (fun q=>SV.eqb q.1 p.2) ((lev C n).call k p.1 H0)) false) false
def Ans(C:Cx)(k:Nat):List (List SV×SV)->Prop
 |[]=>True
 |p::l=>(∃n,aur C n k p=true)/\Ans C k l
noncomputable def Cx.memo(C:Cx)(k:Nat)(l:List (List SV×SV)):Cx:=⟨C.P,C.G,fun j=>bi (zam j k) (some (Ce.memo l)) (C.X j),C.pure,C.V⟩
section
variable {C : Cx} {Gp : World -> Prop}
theorem memo_ok(hC:Cok C Gp)(hX:Xok C Gp){k:Nat}:∀{l:List (List SV×SV)},Ans C k l->ala C Gp (memo l) k
 |[],_=>fun vs H v H' hv=>by cases hv
 |p::l,⟨⟨n,ha⟩,hl⟩=>by
  intro vs H v H' hv w0 E w hg inv hok;have hv:bi (eqL SV.eqb vs p.1) (some (p.2,H)) (memo l vs H)=some (v,H'):=hv;rw [abu]at hv;split at hv
  ·rename_i he;have e:=eqL_ok sve_ok he;cases hv
   subst e;obtain⟨h1,h2⟩:=bb2 ha;obtain⟨h2,h3⟩:=bb2 h2;cases hc:(lev C n).call k p.1 H0 with
   |none=>rw [hc]at h3;cases h3
   |some q=>
    rw [hc]at h3;obtain⟨v,H1⟩:=q;have e:v=p.2:=sve_ok h3;subst e;have hr:=fun E w hw=>run_says (w:=w) hC hX hc h1 h2 hw E
    exact ext_plain hC (hr E w (hC.gp hg inv.hp)).1 h2 (fun E w hw=>(hr E w hw).2) hg inv
  ·exact memo_ok hC hX hl vs H v H' hv w0 E w hg inv hok
theorem aum(h:Cok C Gp/\Xok C Gp){k:Nat}{l:List (List SV×SV)}(ha:Ans C k l):Cok (C.memo k l) Gp/\Xok (C.memo k l) Gp:=by
 obtain⟨hC,hX⟩:=h;refine⟨⟨hC.gp,hC.g,hC.ng,hC.mo,hC.ov⟩, ?_⟩
 intro j f hf;have hf2:bi (zam j k) (some (Ce.memo l)) (C.X j)=some f:=hf;clear hf;rw [abu]at hf2;split at hf2
 ·rename_i hj;rw [aao]at hj;have hj:j=k:=hj;subst hj;cases hf2
  exact memo_ok hC hX ha
 ·exact hX j f hf2
end
end Go.Ce
set_option maxRecDepth 20000
set_option maxHeartbeats 1000000
namespace Go.Wk
open Go.Px
open Int renaming toNat -> zaf
open List renaming set -> zbd
open Sum renaming elim -> zaE
def aja(fu:Nat)(m_0:(Str×Str×Int×Str×(List (Str×Str))×(List UInt8)))(a1:Int->Option (Unit⊕Bool))(a0:Int):Option (Unit⊕Bool):=
 (if a0<(m_0.2.2.2.2.1.length:Int)then(((gd (0<=a0/\a0<(m_0.2.2.2.2.1.length:Int))<|(gd (0<=a0/\a0<(m_0.2.2.2.2.1.length:Int))<|(if(80:Int)<(((el m_0.2.2.2.2.1 a0).1).length:Int)then some true else(gd (0<=a0/\a0<(m_0.2.2.2.2.1.length:Int))<|(gd (0<=a0/\a0<(m_0.2.2.2.2.1.length:Int))<|some (decide ((400:Int)<(((el m_0.2.2.2.2.1 a0).2).length:Int))))))))).bind fun(a2:Bool)=>(bif a2 then some (.inr false)else(gd (acd (a0+(1:Int)))<|(a1 (a0+(1:Int))))))else some (.inl ()))
def aeb(fu:Nat)(m_0:(Str×Str×Int×Str×(List (Str×Str))×(List UInt8))):Nat->Int->Option (Unit⊕Bool):=fun k_ a0=>loopF (fun(g:Int->Option (Unit⊕Bool)) v=>aja fu m_0 (fun a0=>g a0) v) k_ a0
theorem aos{fu:Nat}{m_0:(Str×Str×Int×Str×(List (Str×Str))×(List UInt8))}{k_:Nat}{a0:Int}:aeb fu m_0 (k_+1) a0=aja fu m_0 (aeb fu m_0 k_) a0:=rfl
def ann(fu:Nat)(m_0:(Str×Str×Int×Str×(List (Str×Str))×(List UInt8))):Option Bool:=
 (((if(40:Int)<(m_0.2.2.2.2.1.length:Int)then some true else(if(300:Int)<(m_0.2.1.length:Int)then some true else some (decide ((300:Int)<(m_0.2.2.2.2.2.length:Int)))))).bind fun(v9:Bool)=>(bif v9 then some false else(((aeb fu m_0 fu (0:Int))).bind fun(a0:(Unit⊕Bool))=>zaE (fun(a1:Unit)=>some true) (fun q=>some q) a0)))
def aiy(fu:Nat)(a0:UInt8):Option Bool:=
 (((((if(97:UInt8)<=a0 then some (decide (a0<=(122:UInt8)))else some false)).bind fun(a1:Bool)=>(bif a1 then(bif a1 then some (.inr true)else some (.inl ()))else(((if(65:UInt8)<=a0 then some (decide (a0<=(90:UInt8)))else some false)).bind fun(a2:Bool)=>(bif a2 then(bif a2 then some (.inr true)else some (.inl ()))else(if(48:UInt8)<=a0 then(if a0<=(57:UInt8)then some (.inr true)else some (.inl ()))else some (.inl ()))))))).bind fun(a3:(Unit⊕Bool))=>zaE (fun(a4:Unit)=>(if a0=(45:UInt8)then(if a0=(45:UInt8)then some true else some false)else(if a0=(46:UInt8)then(if a0=(46:UInt8)then some true else some false)else(if a0=(33:UInt8)then(if a0=(33:UInt8)then some true else some false)else(if a0=(37:UInt8)then(if a0=(37:UInt8)then some true else some false)else(if a0=(42:UInt8)then(if a0=(42:UInt8)then some true else some false)else(if a0=(95:UInt8)then(if a0=(95:UInt8)then some true else some false)else(if a0=(43:UInt8)then(if a0=(43:UInt8)then some true else some false)else(if a0=(39:UInt8)then(if a0=(39:UInt8)then some true else some false)else(if a0=(126:UInt8)then(if a0=(126:UInt8)then some true else some false)else(if a0=(96:UInt8)then some true else some false))))))))))) (fun q=>some q) a3)
def abw(fu:Nat)(a1:Str)(a2:Int->Option Int)(a0:Int):Option Int:=
 (((if a0<(a1.length:Int)then(gd (0<=a0/\a0<(a1.length:Int))<|((aiy fu (at_ a1 a0)).bind fun(a3:Bool)=>some a3))else some false)).bind fun(a4:Bool)=>(bif a4 then(gd (acd (a0+(1:Int)))<|(a2 (a0+(1:Int))))else some a0))
def abz(fu:Nat)(a1:Str):Nat->Int->Option Int:=fun k_ a0=>loopF (fun(g:Int->Option Int) v=>abw fu a1 (fun a0=>g a0) v) k_ a0
theorem adw{fu:Nat}{a0:Str}{k_:Nat}{a1:Int}:abz fu a0 (k_+1) a1=abw fu a0 (abz fu a0 k_) a1:=rfl
def acx(fu:Nat)(a0:Str)(a1:Int):Option Int:=
 (((abz fu a0 fu (min (max a1 (0:Int)) (a0.length:Int)))).bind fun(a2:Int)=>some a2)
def aew(fu:Nat)(a0:Str)(a1:Int):Option Int:=
 ((acx fu a0 a1).bind fun(y1:Int)=>some y1)
def aqb(fu:Nat)(a0:Str):Option Bool:=
 (((if a0=([]:Str)then some false else((aew fu a0 (0:Int)).bind fun(a1:Int)=>some (decide (a1=(a0.length:Int)))))).bind fun(a2:Bool)=>some a2)
def aep(fu:Nat)(a0:UInt8):Option UInt8:=
 (((if(65:UInt8)<=a0 then some (decide (a0<=(90:UInt8)))else some false)).bind fun(v5:Bool)=>(bif v5 then some (a0+(32:UInt8))else some a0))
def akr(fu:Nat)(a0:UInt8):Option Str:=
 (if a0=(98:UInt8)then some ([82,101,102,101,114,114,101,100,45,66,121]:Str)else(if a0=(99:UInt8)then some ([67,111,110,116,101,110,116,45,84,121,112,101]:Str)else(if a0=(101:UInt8)then some ([67,111,110,116,101,110,116,45,69,110,99,111,100,105,110,103]:Str)else(if a0=(102:UInt8)then some ([70,114,111,109]:Str)else(if a0=(105:UInt8)then some ([67,97,108,108,45,73,68]:Str)else(if a0=(107:UInt8)then some ([83,117,112,112,111,114,116,101,100]:Str)else(if a0=(108:UInt8)then some ([67,111,110,116,101,110,116,45,76,101,110,103,116,104]:Str)else(if a0=(109:UInt8)then some ([67,111,110,116,97,99,116]:Str)else(if a0=(111:UInt8)then some ([69,118,101,110,116]:Str)else(if a0=(114:UInt8)then some ([82,101,102,101,114,45,84,111]:Str)else(if a0=(115:UInt8)then some ([83,117,98,106,101,99,116]:Str)else(if a0=(116:UInt8)then some ([84,111]:Str)else(if a0=(117:UInt8)then some ([65,108,108,111,119,45,69,118,101,110,116,115]:Str)else(if a0=(118:UInt8)then some ([86,105,97]:Str)else(if a0=(120:UInt8)then some ([83,101,115,115,105,111,110,45,69,120,112,105,114,101,115]:Str)else some ([]:Str))))))))))))))))
def abe(fu:Nat)(a2:Str)(a3:Str->Int->Option Str)(a1:Str)(a0:Int):Option Str:=
 (if a0<(a2.length:Int)then(gd (0<=a0/\a0<(a1.length:Int))<|(gd (0<=a0/\a0<(a1.length:Int))<|((aep fu (at_ a1 a0)).bind fun(a4:UInt8)=>(gd (0<=a0/\a0<(a1.length:Int))<|(gd (0<=a0/\a0<(a1.length:Int))<|(gd (acd (a0+(1:Int)))<|(a3 (zbd a1 (zaf a0) a4) (a0+(1:Int)))))))))else some a1)
def abi(fu:Nat)(a2:Str):Nat->Str->Int->Option Str:=fun k_ a0 a1=>loopF (fun(g:(Str×Int)->Option Str) v=>abe fu a2 (fun a0 a1=>g (a0,a1)) v.1 v.2) k_ (a0,a1)
theorem ade{fu:Nat}{a0:Str}{k_:Nat}{a1:Str}{a2:Int}:abi fu a0 (k_+1) a1 a2=abe fu a0 (abi fu a0 k_) a1 a2:=rfl
def abc(fu:Nat)(a0:Str):Option Str:=
 (((abi fu a0 fu a0 (0:Int))).bind fun(a1:Str)=>some a1)
def agn(fu:Nat)(a0:UInt8):Option UInt8:=
 (((if(97:UInt8)<=a0 then some (decide (a0<=(122:UInt8)))else some false)).bind fun(v5:Bool)=>(bif v5 then some (a0-(32:UInt8))else some a0))
def alz(fu:Nat)(a0:UInt8)(a1:Bool):Option (UInt8×Bool):=
 (bif a1 then((agn fu a0).bind fun(y2:UInt8)=>some (y2,(decide (y2=(45:UInt8)))))else((aep fu a0).bind fun(y9:UInt8)=>some (y9,(decide (y9=(45:UInt8))))))
def abk(fu:Nat)(a4:Str)(a5:Str->Int->Bool->Option (Str×Bool))(a1:Str)(a0:Int)(a2:Bool):Option (Str×Bool):=
 (if a0<(a4.length:Int)then(gd (0<=a0/\a0<(a1.length:Int))<|(gd (0<=a0/\a0<(a1.length:Int))<|((alz fu (at_ a1 a0) a2).bind fun(a3:(UInt8×Bool))=>(gd (0<=a0/\a0<(a1.length:Int))<|(gd (0<=a0/\a0<(a1.length:Int))<|(gd (acd (a0+(1:Int)))<|(a5 (zbd a1 (zaf a0) a3.1) (a0+(1:Int)) a3.2)))))))else some (a1,a2))
def abq(fu:Nat)(a3:Str):Nat->Str->Int->Bool->Option (Str×Bool):=fun k_ a0 a1 a2=>loopF (fun(g:(Str×Int×Bool)->Option (Str×Bool)) v=>abk fu a3 (fun a0 a1 a2=>g (a0,a1,a2)) v.1 v.2.1 v.2.2) k_ (a0,a1,a2)
theorem adm{fu:Nat}{a0:Str}{k_:Nat}{a1:Str}{a2:Int}{a3:Bool}:abq fu a0 (k_+1) a1 a2 a3=abk fu a0 (abq fu a0 k_) a1 a2 a3:=rfl
def abl(fu:Nat)(a0:Str)(a2:Bool):Option (Str×Bool):=
 (((abq fu a0 fu a0 (0:Int) a2)).bind fun(a1:(Str×Bool))=>some (a1.1,a1.2))
def aou(fu:Nat)(a1:Str)(a2:Int->Option (Unit⊕(Str×UInt8)))(a0:Int):Option (Unit⊕(Str×UInt8)):=
 (if a0<(7:Int)then(gd (0<=a0/\a0<(ajf.length:Int))<|((abc fu (el ajf a0)).bind fun(a3:Str)=>(if a3=a1 then some (.inr (el ajf a0,(0:UInt8)))else(gd (acd (a0+(1:Int)))<|(a2 (a0+(1:Int)))))))else some (.inl ()))
def adp(fu:Nat)(a1:Str):Nat->Int->Option (Unit⊕(Str×UInt8)):=fun k_ a0=>loopF (fun(g:Int->Option (Unit⊕(Str×UInt8))) v=>aou fu a1 (fun a0=>g a0) v) k_ a0
theorem L_header_Canon_lp0_s{fu:Nat}{a0:Str}{k_:Nat}{a1:Int}:adp fu a0 (k_+1) a1=aou fu a0 (adp fu a0 k_) a1:=rfl
def ajl(fu:Nat)(a0:Str):Option (Str×UInt8):=
 ((((aqb fu a0).bind fun(a2:Bool)=>(bif (!a2)then some true else some (decide ((64:Int)<(a0.length:Int)))))).bind fun(a3:Bool)=>(bif a3 then some (([]:Str),(5:UInt8))else(((if(a0.length:Int)=(1:Int)then(gd (0<=(0:Int)/\(0:Int)<(a0.length:Int))<|((aep fu (at_ a0 (0:Int))).bind fun(a4:UInt8)=>((akr fu a4).bind fun(a1:Str)=>(if a1=([]:Str)then some (.inl ())else some (.inr (a1,(0:UInt8)))))))else some (.inl ()))).bind fun(a5:(Unit⊕(Str×UInt8)))=>zaE (fun(a9:Unit)=>((abc fu a0).bind fun(a6:Str)=>(((adp fu a6 fu (0:Int))).bind fun(a7:(Unit⊕(Str×UInt8)))=>zaE (fun(b0:Unit)=>((abl fu a0 true).bind fun(a8:(Str×Bool))=>some (a8.1,(0:UInt8)))) (fun q=>some q) a7))) (fun q=>some q) a5)))
def akp(fu:Nat)(a0:Str):Option (UInt8×Str):=
 ((ajl fu a0).bind fun(y1:(Str×UInt8))=>some (y1.2,y1.1))
def agu(fu:Nat)(a1:Str)(a2:Int->Option (Unit⊕Int))(a0:Int):Option (Unit⊕Int):=
 (if a0<(31:Int)then(gd (0<=a0/\a0<(31:Int))<|(gd (0<=a0/\a0<(acy.length:Int))<|(if((el acy a0).1)=a1 then(gd (0<=a0/\a0<(31:Int))<|(gd (0<=a0/\a0<(acy.length:Int))<|some (.inr ((el acy a0).2))))else(gd (acd (a0+(1:Int)))<|(a2 (a0+(1:Int)))))))else some (.inl ()))
def aib(fu:Nat)(a1:Str):Nat->Int->Option (Unit⊕Int):=fun k_ a0=>loopF (fun(g:Int->Option (Unit⊕Int)) v=>agu fu a1 (fun a0=>g a0) v) k_ a0
theorem amy{fu:Nat}{a0:Str}{k_:Nat}{a1:Int}:aib fu a0 (k_+1) a1=agu fu a0 (aib fu a0 k_) a1:=rfl
def amz(fu:Nat)(a0:Str):Option Int:=
 (((aib fu a0 fu (0:Int))).bind fun(a1:(Unit⊕Int))=>zaE (fun(a2:Unit)=>some (0:Int)) (fun q=>some q) a1)
def ajb(fu:Nat)(a0:Str):Option Bool:=
 (((if a0=([67,111,110,116,97,99,116]:Str)then(if a0=([67,111,110,116,97,99,116]:Str)then some (.inr true)else some (.inl ()))else(if a0=([80,97,116,104]:Str)then(if a0=([80,97,116,104]:Str)then some (.inr true)else some (.inl ()))else(if a0=([82,101,99,111,114,100,45,82,111,117,116,101]:Str)then(if a0=([82,101,99,111,114,100,45,82,111,117,116,101]:Str)then some (.inr true)else some (.inl ()))else(if a0=([82,111,117,116,101]:Str)then(if a0=([82,111,117,116,101]:Str)then some (.inr true)else some (.inl ()))else(if a0=([83,101,114,118,105,99,101,45,82,111,117,116,101]:Str)then some (.inr true)else some (.inl ()))))))).bind fun(a2:(Unit⊕Bool))=>zaE (fun(a4:Unit)=>((amz fu a0).bind fun(a1:Int)=>(((if a1=(2:Int)then some true else some (decide (a1=(7:Int))))).bind fun(a3:Bool)=>some a3))) (fun q=>some q) a2)
def ano(fu:Nat)(a0:Str):Option Bool:=
 ((ajl fu a0).bind fun(y1:(Str×UInt8))=>(((if y1.2=(0:UInt8)then((ajb fu y1.1).bind fun(a1:Bool)=>some a1)else some false)).bind fun(a2:Bool)=>some a2))
def ahm(fu:Nat)(a0:(Str×Str))(a1:UInt8)(a2:Str):Option Bool:=
 ((ajl fu a0.1).bind fun(y4:(Str×UInt8))=>(((if a1=(0:UInt8)then(if y4.2=(0:UInt8)then some (decide (y4.1=a2))else some false)else some false)).bind fun(a3:Bool)=>some a3))
def agk(fu:Nat)(a0:UInt8):Option Bool:=
 (((if a0=(32:UInt8)then some true else some (decide (a0=(9:UInt8))))).bind fun(v5:Bool)=>some v5)
def ags(fu:Nat)(a0:UInt8):Option Bool:=
 (((if(32:UInt8)<=a0 then some (decide (a0<=(126:UInt8)))else some false)).bind fun(v5:Bool)=>some v5)
def agt(fu:Nat)(a0:UInt8):Option Bool:=
 (((if a0<(32:UInt8)then(if a0=(9:UInt8)then some (decide (a0=(127:UInt8)))else some true)else some (decide (a0=(127:UInt8))))).bind fun(v6:Bool)=>some v6)
def aet(fu:Nat)(a1:Str)(a3:(List UInt8)->Int->Option (((List UInt8)×Int)⊕(Str×Int×UInt8)))(a2:List UInt8)(a0:Int):Option (((List UInt8)×Int)⊕(Str×Int×UInt8)):=
 (if a0<(a1.length:Int)then(gd (0<=a0/\a0<(a1.length:Int))<|(if(at_ a1 a0)=(34:UInt8)then some (.inl (a2,a0))else(if(at_ a1 a0)=(92:UInt8)then(gd (acd (a0+(1:Int)))<|(if(a0+(1:Int))=(a1.length:Int)then some (.inr (([]:Str),(a1.length:Int),(6:UInt8)))else(gd (acd (a0+(1:Int)))<|(gd (0<=(a0+(1:Int))/\(a0+(1:Int))<(a1.length:Int))<|((ags fu (at_ a1 (a0+(1:Int)))).bind fun(a4:Bool)=>(bif (!a4)then some (.inr (([]:Str),a0,(5:UInt8)))else(gd (acd (a0+(1:Int)))<|(gd (0<=(a0+(1:Int))/\(a0+(1:Int))<(a1.length:Int))<|(gd ((a2.length+([at_ a1 (a0+(1:Int))]:List UInt8).length)*1<=140737488355328)<|(gd (acd ((a0+(1:Int))+(1:Int)))<|(a3 (a2++([at_ a1 (a0+(1:Int))]:List UInt8)) ((a0+(1:Int))+(1:Int)))))))))))))else((agt fu (at_ a1 a0)).bind fun(a5:Bool)=>(bif a5 then some (.inr (([]:Str),a0,(5:UInt8)))else(gd (0<=a0/\a0<(a1.length:Int))<|(gd ((a2.length+([at_ a1 a0]:List UInt8).length)*1<=140737488355328)<|(gd (acd (a0+(1:Int)))<|(a3 (a2++([at_ a1 a0]:List UInt8)) (a0+(1:Int)))))))))))else some (.inl (a2,a0)))
def aia(fu:Nat)(a2:Str):Nat->(List UInt8)->Int->Option (((List UInt8)×Int)⊕(Str×Int×UInt8)):=fun k_ a0 a1=>loopF (fun(g:((List UInt8)×Int)->Option (((List UInt8)×Int)⊕(Str×Int×UInt8))) v=>aet fu a2 (fun a0 a1=>g (a0,a1)) v.1 v.2) k_ (a0,a1)
theorem aiz{fu:Nat}{a0:Str}{k_:Nat}{a1:List UInt8}{a2:Int}:aia fu a0 (k_+1) a1 a2=aet fu a0 (aia fu a0 k_) a1 a2:=rfl
def akq(fu:Nat)(a1:Str)(a0:Int):Option (Str×Int×UInt8):=
 (((if a0<(0:Int)then some true else some (decide ((a1.length:Int)<a0)))).bind fun(v5:Bool)=>(bif v5 then some (([]:Str),(0:Int),(2:UInt8))else(((if a0=(a1.length:Int)then some true else(gd (0<=a0/\a0<(a1.length:Int))<|some (!decide ((at_ a1 a0)=(34:UInt8)))))).bind fun(a3:Bool)=>(bif a3 then some (([]:Str),a0,(5:UInt8))else(gd (acd (a0+(1:Int)))<|(((aia fu a1 fu ([]:List UInt8) (a0+(1:Int)))).bind fun(a4:(((List UInt8)×Int)⊕(Str×Int×UInt8)))=>zaE (fun(a2:((List UInt8)×Int))=>(if(a1.length:Int)<=a2.2 then some (([]:Str),(a1.length:Int),(6:UInt8))else(gd (acd (a2.2+(1:Int)))<|some (a2.1,a2.2+(1:Int),(0:UInt8))))) (fun q=>some q) a4))))))
def aba(fu:Nat)(a1:Str)(a2:Int->Option Int)(a0:Int):Option Int:=
 (((if a0<(a1.length:Int)then(gd (0<=a0/\a0<(a1.length:Int))<|((agk fu (at_ a1 a0)).bind fun(a3:Bool)=>some a3))else some false)).bind fun(a4:Bool)=>(bif a4 then(gd (acd (a0+(1:Int)))<|(a2 (a0+(1:Int))))else some a0))
def aca(fu:Nat)(a1:Str):Nat->Int->Option Int:=fun k_ a0=>loopF (fun(g:Int->Option Int) v=>aba fu a1 (fun a0=>g a0) v) k_ a0
theorem acs{fu:Nat}{a0:Str}{k_:Nat}{a1:Int}:aca fu a0 (k_+1) a1=aba fu a0 (aca fu a0 k_) a1:=rfl
def adu(fu:Nat)(a0:Str)(a1:Int):Option Int:=
 (((aca fu a0 fu (min (max a1 (0:Int)) (a0.length:Int)))).bind fun(a2:Int)=>some a2)
def ajk(fu:Nat)(a0:Str)(a1:Int):Option Int:=
 ((adu fu a0 a1).bind fun(y1:Int)=>some y1)
def anm(fu:Nat)(a1:Str)(a2:Int)(a0:Int):Option (Int×Str):=
 ((ajk fu a1 a2).bind fun(y4:Int)=>(gd (0<=(min y4 a0)/\(min y4 a0)<=a0/\a0<=(a1.length:Int))<|(gd ((sub a1 (min y4 a0) a0).length<=1000000000)<|gd (([32,9]:Str).length<=1000/\([32,9]:Str).all (fun b=>decide (b.toNat<128))=true)<|some (min y4 a0,Lib.trimRightS (sub a1 (min y4 a0) a0) ([32,9]:Str)))))
open List renaming drop -> zak, set -> zbd, take -> zaS
def agl(fu:Nat)(a1:Str)(a7:UInt8)(a4:(List (Int×Str))->Int->Int->Option (((List (Int×Str))×Int)⊕((List (Int×Str))×Int×UInt8)))(a2:List (Int×Str))(a3:Int)(a0:Int):Option (((List (Int×Str))×Int)⊕((List (Int×Str))×Int×UInt8)):=
 (if a0<(a1.length:Int)then(gd (0<=a0/\a0<(a1.length:Int))<|(if(at_ a1 a0)=(34:UInt8)then((akq fu a1 a0).bind fun(a5:(Str×Int×UInt8))=>(if a5.2.2=(0:UInt8)then(a4 a2 a3 a5.2.1)else some (.inr (([]:List (Int×Str)),a5.2.1,a5.2.2))))else(if(at_ a1 a0)=(60:UInt8)then(gd (0<=a0/\a0<=(a1.length:Int))<|(if(ixb (·==(62:UInt8)) (zak (zaf a0) a1))<(0:Int)then some (.inr (([]:List (Int×Str)),(a1.length:Int),(6:UInt8)))else(gd (acd ((ixb (·==(62:UInt8)) (zak (zaf a0) a1))+(1:Int)))<|(gd (acd (a0+((ixb (·==(62:UInt8)) (zak (zaf a0) a1))+(1:Int))))<|(a4 a2 a3 (a0+((ixb (·==(62:UInt8)) (zak (zaf a0) a1))+(1:Int))))))))else(if(at_ a1 a0)=(62:UInt8)then some (.inr (([]:List (Int×Str)),a0,(5:UInt8)))else(if(at_ a1 a0)=a7 then((anm fu a1 a3 a0).bind fun(a6:(Int×Str))=>(gd ((a2.length+([a6]:List (Int×Str)).length)*24<=140737488355328)<|(gd (acd (a0+(1:Int)))<|(a4 (a2++([a6]:List (Int×Str))) (a0+(1:Int)) (a0+(1:Int))))))else(gd (acd (a0+(1:Int)))<|(a4 a2 a3 (a0+(1:Int)))))))))else some (.inl (a2,a3)))
def ahn(fu:Nat)(a3:Str)(a4:UInt8):Nat->(List (Int×Str))->Int->Int->Option (((List (Int×Str))×Int)⊕((List (Int×Str))×Int×UInt8)):=fun k_ a0 a1 a2=>loopF (fun(g:((List (Int×Str))×Int×Int)->Option (((List (Int×Str))×Int)⊕((List (Int×Str))×Int×UInt8))) v=>agl fu a3 a4 (fun a0 a1 a2=>g (a0,a1,a2)) v.1 v.2.1 v.2.2) k_ (a0,a1,a2)
theorem alm{fu:Nat}{a0:Str}{a1:UInt8}{k_:Nat}{a2:List (Int×Str)}{a3:Int}{a4:Int}:ahn fu a0 a1 (k_+1) a2 a3 a4=agl fu a0 a1 (ahn fu a0 a1 k_) a2 a3 a4:=rfl
def aqc(fu:Nat)(a1:Str)(a0:UInt8):Option ((List (Int×Str))×Int×UInt8):=
 ((((agk fu a0).bind fun(a4:Bool)=>(bif a4 then some true else(if a0=(34:UInt8)then some true else(if a0=(60:UInt8)then some true else some (decide (a0=(62:UInt8)))))))).bind fun(a5:Bool)=>(bif a5 then some (([]:List (Int×Str)),(0:Int),(2:UInt8))else(((ahn fu a1 a0 fu ([]:List (Int×Str)) (0:Int) (0:Int))).bind fun(a6:(((List (Int×Str))×Int)⊕((List (Int×Str))×Int×UInt8)))=>zaE (fun(a2:((List (Int×Str))×Int))=>((anm fu a1 a2.2 (a1.length:Int)).bind fun(a3:(Int×Str))=>(gd ((a2.1.length+([a3]:List (Int×Str)).length)*24<=140737488355328)<|some (a2.1++([a3]:List (Int×Str)),(0:Int),(0:UInt8))))) (fun q=>some q) a6)))
def ajc(fu:Nat)(y1:((List (Int×Str))×Int×UInt8))(a2:(List Str)->Int->Option ((List Str)⊕((List Str)×UInt8)))(a1:List Str)(a0:Int):Option ((List Str)⊕((List Str)×UInt8)):=
 (if a0<(y1.1.length:Int)then(gd (0<=a0/\a0<(y1.1.length:Int))<|(gd (0<=a0/\a0<(y1.1.length:Int))<|(if((el y1.1 a0).2)=([]:Str)then some (.inr (([]:List Str),(5:UInt8)))else(gd ((a1.length+([(el y1.1 a0).2]:List Str).length)*16<=140737488355328)<|(gd (acd (a0+(1:Int)))<|(a2 (a1++([(el y1.1 a0).2]:List Str)) (a0+(1:Int))))))))else some (.inl a1))
def aho(fu:Nat)(y1:((List (Int×Str))×Int×UInt8)):Nat->(List Str)->Int->Option ((List Str)⊕((List Str)×UInt8)):=fun k_ a0 a1=>loopF (fun(g:((List Str)×Int)->Option ((List Str)⊕((List Str)×UInt8))) v=>ajc fu y1 (fun a0 a1=>g (a0,a1)) v.1 v.2) k_ (a0,a1)
theorem aot{fu:Nat}{y1:((List (Int×Str))×Int×UInt8)}{k_:Nat}{a0:List Str}{a1:Int}:aho fu y1 (k_+1) a0 a1=ajc fu y1 (aho fu y1 k_) a0 a1:=rfl
def aqe(fu:Nat)(a0:Str):Option ((List Str)×UInt8):=
 ((aqc fu a0 (44:UInt8)).bind fun(y1:((List (Int×Str))×Int×UInt8))=>(if y1.2.2=(0:UInt8)then(((aho fu y1 fu ([]:List Str) (0:Int))).bind fun(a1:((List Str)⊕((List Str)×UInt8)))=>zaE (fun(a2:List Str)=>some (a2,(0:UInt8))) (fun q=>some q) a1)else some (([]:List Str),y1.2.2)))
def agj(fu:Nat)(a0:Str):Option (List Str):=
 ((aqe fu a0).bind fun(y1:((List Str)×UInt8))=>(if y1.2=(0:UInt8)then some y1.1 else some ([a0]:List Str)))
def aix(fu:Nat)(m_0:(Str×Str×Int×Str×(List (Str×Str))×(List UInt8)))(y4:(UInt8×Str))(a4:Bool)(a2:(List Str)->Int->Option (List Str))(a1:List Str)(a0:Int):Option (List Str):=
 (if a0<(m_0.2.2.2.2.1.length:Int)then(gd (0<=a0/\a0<(m_0.2.2.2.2.1.length:Int))<|(gd (0<=a0/\a0<(m_0.2.2.2.2.1.length:Int))<|((ahm fu (el m_0.2.2.2.2.1 a0) y4.1 y4.2).bind fun(a5:Bool)=>(bif (!a5)then(gd (acd (a0+(1:Int)))<|(a2 a1 (a0+(1:Int))))else(bif a4 then((agj fu ((el m_0.2.2.2.2.1 a0).2)).bind fun(a3:List Str)=>(gd ((a1.length+a3.length)*16<=140737488355328)<|(gd (acd (a0+(1:Int)))<|(a2 (a1++a3) (a0+(1:Int))))))else(gd ((a1.length+([(el m_0.2.2.2.2.1 a0).2]:List Str).length)*16<=140737488355328)<|(gd (acd (a0+(1:Int)))<|(a2 (a1++([(el m_0.2.2.2.2.1 a0).2]:List Str)) (a0+(1:Int))))))))))else some a1)
def afj(fu:Nat)(m_0:(Str×Str×Int×Str×(List (Str×Str))×(List UInt8)))(y4:(UInt8×Str))(a2:Bool):Nat->(List Str)->Int->Option (List Str):=fun k_ a0 a1=>loopF (fun(g:((List Str)×Int)->Option (List Str)) v=>aix fu m_0 y4 a2 (fun a0 a1=>g (a0,a1)) v.1 v.2) k_ (a0,a1)
theorem aor{fu:Nat}{m_0:(Str×Str×Int×Str×(List (Str×Str))×(List UInt8))}{y4:(UInt8×Str)}{a0:Bool}{k_:Nat}{a1:List Str}{a2:Int}:afj fu m_0 y4 a0 (k_+1) a1 a2=aix fu m_0 y4 a0 (afj fu m_0 y4 a0 k_) a1 a2:=rfl
def anl(fu:Nat)(m_0:(Str×Str×Int×Str×(List (Str×Str))×(List UInt8)))(a0:Str):Option (List Str):=
 ((akp fu a0).bind fun(y4:(UInt8×Str))=>((ano fu a0).bind fun(a1:Bool)=>(((afj fu m_0 y4 a1 fu ([]:List Str) (0:Int))).bind fun(a2:List Str)=>some a2)))
def aqd(fu:Nat)(a0:Str):Option Str:=
 (gd (a0.length<=1000000000)<|gd (([32,9]:Str).length<=1000/\([32,9]:Str).all (fun b=>decide (b.toNat<128))=true)<|some (Lib.trimS a0 ([32,9]:Str)))
def abd(fu:Nat)(a2:Str)(a3:Str->Int->Option Str)(a1:Str)(a0:Int):Option Str:=
 (if a0<(a2.length:Int)then(gd (0<=a0/\a0<(a1.length:Int))<|(gd (0<=a0/\a0<(a1.length:Int))<|((agn fu (at_ a1 a0)).bind fun(a4:UInt8)=>(gd (0<=a0/\a0<(a1.length:Int))<|(gd (0<=a0/\a0<(a1.length:Int))<|(gd (acd (a0+(1:Int)))<|(a3 (zbd a1 (zaf a0) a4) (a0+(1:Int)))))))))else some a1)
def abh(fu:Nat)(a2:Str):Nat->Str->Int->Option Str:=fun k_ a0 a1=>loopF (fun(g:(Str×Int)->Option Str) v=>abd fu a2 (fun a0 a1=>g (a0,a1)) v.1 v.2) k_ (a0,a1)
theorem adc{fu:Nat}{a0:Str}{k_:Nat}{a1:Str}{a2:Int}:abh fu a0 (k_+1) a1 a2=abd fu a0 (abh fu a0 k_) a1 a2:=rfl
def abb(fu:Nat)(a0:Str):Option Str:=
 (((abh fu a0 fu a0 (0:Int))).bind fun(a1:Str)=>some a1)
def aly(fu:Nat)(a0:Str):Option PQ:=
 (gd (a0.length<=1000000000)<|(((if(api (·==(58:UInt8)) a0)<(0:Int)then some true else(gd (0<=(api (·==(58:UInt8)) a0)/\(api (·==(58:UInt8)) a0)<=(a0.length:Int))<|(gd ((zaS (zaf (api (·==(58:UInt8)) a0)) a0).length<=1000000000)<|(bif (Lib.contains (zaS (zaf (api (·==(58:UInt8)) a0)) a0) ([91]:Str))then(gd (0<=(api (·==(58:UInt8)) a0)/\(api (·==(58:UInt8)) a0)<=(a0.length:Int))<|(gd ((zak (zaf (api (·==(58:UInt8)) a0)) a0).length<=1000000000)<|some (Lib.contains (zak (zaf (api (·==(58:UInt8)) a0)) a0) ([93]:Str))))else some false))))).bind fun(a1:Bool)=>(bif a1 then some (a0,([]:Str),false)else(gd (0<=(api (·==(58:UInt8)) a0)/\(api (·==(58:UInt8)) a0)<=(a0.length:Int))<|(gd (acd ((api (·==(58:UInt8)) a0)+(1:Int)))<|(gd (0<=((api (·==(58:UInt8)) a0)+(1:Int))/\((api (·==(58:UInt8)) a0)+(1:Int))<=(a0.length:Int))<|some (zaS (zaf (api (·==(58:UInt8)) a0)) a0,zak (zaf ((api (·==(58:UInt8)) a0)+(1:Int))) a0,true)))))))
def aer(fu:Nat)(a0:UInt8):Option Bool:=
 (((if(48:UInt8)<=a0 then some (decide (a0<=(57:UInt8)))else some false)).bind fun(v5:Bool)=>some v5)
open Go.Lib renaming cut -> zbm, join -> zax, trimLeftS -> zaY
def ajd(fu:Nat)(a0:UInt8):Option (UInt8×Bool):=
 ((aer fu a0).bind fun(y1:Bool)=>(bif y1 then some (a0-(48:UInt8),true)else(((if(97:UInt8)<=a0 then some (decide (a0<=(102:UInt8)))else some false)).bind fun(a1:Bool)=>(bif a1 then some ((a0-(97:UInt8))+(10:UInt8),true)else(((if(65:UInt8)<=a0 then some (decide (a0<=(70:UInt8)))else some false)).bind fun(a2:Bool)=>(bif a2 then some ((a0-(65:UInt8))+(10:UInt8),true)else some ((0:UInt8),false)))))))
def agw(fu:Nat)(a3:Str)(a2:Str->Int->Option Str)(a1:Str)(a0:Int):Option Str:=
 (if a0<(a3.length:Int)then(gd (0<=a0/\a0<(a1.length:Int))<|(gd (0<=a0/\a0<(a1.length:Int))<|(((if(65:UInt8)<=(at_ a1 a0)then some (decide ((at_ a1 a0)<=(90:UInt8)))else some false)).bind fun(a4:Bool)=>(bif a4 then(gd (0<=a0/\a0<(a1.length:Int))<|(gd (0<=a0/\a0<(a1.length:Int))<|(gd (acd (a0+(1:Int)))<|(a2 (zbd a1 (zaf a0) ((at_ a1 a0)+(32:UInt8))) (a0+(1:Int))))))else(gd (acd (a0+(1:Int)))<|(a2 a1 (a0+(1:Int))))))))else some a1)
def aic(fu:Nat)(a2:Str):Nat->Str->Int->Option Str:=fun k_ a0 a1=>loopF (fun(g:(Str×Int)->Option Str) v=>agw fu a2 (fun a0 a1=>g (a0,a1)) v.1 v.2) k_ (a0,a1)
theorem anb{fu:Nat}{a0:Str}{k_:Nat}{a1:Str}{a2:Int}:aic fu a0 (k_+1) a1 a2=agw fu a0 (aic fu a0 k_) a1 a2:=rfl
def aeq(fu:Nat)(a0:Str):Option Str:=
 (((aic fu a0 fu a0 (0:Int))).bind fun(a1:Str)=>some a1)
def adf(fu:Nat)(a1:List Str)(a2:Int)(a3:Int->Option (Unit⊕((List Str)×Bool)))(a0:Int):Option (Unit⊕((List Str)×Bool)):=
 (if a0<((el a1 a2).length:Int)then(gd (0<=a0/\a0<((el a1 a2).length:Int))<|((ajd fu (at_ (el a1 a2) a0)).bind fun(a4:(UInt8×Bool))=>(bif (!a4.2)then some (.inr (([]:List Str),false))else(gd (acd (a0+(1:Int)))<|(a3 (a0+(1:Int)))))))else some (.inl ()))
def adn(fu:Nat)(a1:List Str)(a2:Int):Nat->Int->Option (Unit⊕((List Str)×Bool)):=fun k_ a0=>loopF (fun(g:Int->Option (Unit⊕((List Str)×Bool))) v=>adf fu a1 a2 (fun a0=>g a0) v) k_ a0
theorem afn{fu:Nat}{a0:List Str}{a1:Int}{k_:Nat}{a2:Int}:adn fu a0 a1 (k_+1) a2=adf fu a0 a1 (adn fu a0 a1 k_) a2:=rfl
def aef(fu:Nat)(a3:Str)(a4:(List Str)->Int->Option ((List Str)⊕((List Str)×Bool)))(a1:List Str)(a0:Int):Option ((List Str)⊕((List Str)×Bool)):=
 (if a0<((spl 58 a3).length:Int)then(((gd (0<=a0/\a0<(a1.length:Int))<|(gd (0<=a0/\a0<(a1.length:Int))<|(((if((el a1 a0).length:Int)<(1:Int)then some true else some (decide ((4:Int)<((el a1 a0).length:Int))))).bind fun(a5:Bool)=>(bif a5 then some (.inr (([]:List Str),false))else(((adn fu a1 a0 fu (0:Int))).bind fun(a6:(Unit⊕((List Str)×Bool)))=>zaE (fun(a9:Unit)=>((aeq fu (el a1 a0)).bind fun(a2:Str)=>(gd (a2.length<=1000000000)<|gd (([48]:Str).length<=1000/\([48]:Str).all (fun b=>decide (b.toNat<128))=true)<|(if(zaY a2 ([48]:Str))=([]:Str)then(gd (0<=a0/\a0<(a1.length:Int))<|(gd (0<=a0/\a0<(a1.length:Int))<|some (.inl (zbd a1 (zaf a0) ([48]:Str)))))else(gd (0<=a0/\a0<(a1.length:Int))<|(gd (0<=a0/\a0<(a1.length:Int))<|some (.inl (zbd a1 (zaf a0) (zaY a2 ([48]:Str)))))))))) (fun q=>some (.inr q)) a6)))))).bind fun(a7:((List Str)⊕((List Str)×Bool)))=>zaE (fun(a8:List Str)=>(gd (acd (a0+(1:Int)))<|(a4 a8 (a0+(1:Int))))) (fun q=>some (.inr q)) a7)else some (.inl a1))
def acv(fu:Nat)(a2:Str):Nat->(List Str)->Int->Option ((List Str)⊕((List Str)×Bool)):=fun k_ a0 a1=>loopF (fun(g:((List Str)×Int)->Option ((List Str)⊕((List Str)×Bool))) v=>aef fu a2 (fun a0 a1=>g (a0,a1)) v.1 v.2) k_ (a0,a1)
theorem ajn{fu:Nat}{a0:Str}{k_:Nat}{a1:List Str}{a2:Int}:acv fu a0 (k_+1) a1 a2=aef fu a0 (acv fu a0 k_) a1 a2:=rfl
def adi(fu:Nat)(a0:Str):Option ((List Str)×Bool):=
 (gd (a0.length<=1000000000)<|(((acv fu a0 fu (spl 58 a0) (0:Int))).bind fun(a1:((List Str)⊕((List Str)×Bool)))=>zaE (fun(a2:List Str)=>some (a2,true)) (fun q=>some q) a1))
def amb(fu:Nat)(a0:Str):Option (Str×Bool):=
 (if(39:Int)<(a0.length:Int)then some (([]:Str),false)else(gd (a0.length<=1000000000)<|(bif (!((zbm a0 ([58,58]:Str)).2.2))then((adi fu a0).bind fun(y7:((List Str)×Bool))=>(((gd (y7.1.length<=1000000000/\(zax y7.1 ([58]:Str)).length<=100000000000)<|(bif y7.2 then some (zax y7.1 ([58]:Str),(decide ((y7.1.length:Int)=(8:Int))))else some (zax y7.1 ([58]:Str),false)))).bind fun(a3:(Str×Bool))=>some (a3.1,a3.2)))else(((if((zbm a0 ([58,58]:Str)).1)=([]:Str)then some (([]:List Str),true)else((adi fu ((zbm a0 ([58,58]:Str)).1)).bind fun(a4:((List Str)×Bool))=>some (a4.1,a4.2)))).bind fun(a1:((List Str)×Bool))=>(((if((zbm a0 ([58,58]:Str)).2.1)=([]:Str)then some (([]:List Str),true)else((adi fu ((zbm a0 ([58,58]:Str)).2.1)).bind fun(a5:((List Str)×Bool))=>some (a5.1,a5.2)))).bind fun(a2:((List Str)×Bool))=>(((bif (!a1.2)then some true else(bif (!a2.2)then some true else(gd (acd ((a1.1.length:Int)+(a2.1.length:Int)))<|some (decide ((7:Int)<((a1.1.length:Int)+(a2.1.length:Int)))))))).bind fun(a6:Bool)=>(bif a6 then some (([]:Str),false)else(gd (a1.1.length<=1000000000/\(zax a1.1 ([58]:Str)).length<=100000000000)<|(gd ((zax a1.1 ([58]:Str)).length+([58,58]:Str).length<=9223372036854775807)<|(gd (a2.1.length<=1000000000/\(zax a2.1 ([58]:Str)).length<=100000000000)<|(gd (((zax a1.1 ([58]:Str))++([58,58]:Str)).length+(zax a2.1 ([58]:Str)).length<=9223372036854775807)<|some (((zax a1.1 ([58]:Str))++([58,58]:Str))++(zax a2.1 ([58]:Str)),true))))))))))))
def afb(fu:Nat)(a1:Str)(a2:Int)(a4:Int->Int->Option (Int⊕Bool))(a3:Int)(a0:Int):Option (Int⊕Bool):=
 (if a0<((el (spl 46 a1) a2).length:Int)then(gd (0<=a0/\a0<((el (spl 46 a1) a2).length:Int))<|((aer fu (at_ (el (spl 46 a1) a2) a0)).bind fun(a5:Bool)=>(bif (!a5)then some (.inr false)else(gd (acd ((10:Int)*a3))<|(gd (0<=a0/\a0<((el (spl 46 a1) a2).length:Int))<|(gd (acd (((10:Int)*a3)+(((at_ (el (spl 46 a1) a2) a0)-(48:UInt8)).toNat:Int)))<|(gd (acd (a0+(1:Int)))<|(a4 (((10:Int)*a3)+(((at_ (el (spl 46 a1) a2) a0)-(48:UInt8)).toNat:Int)) (a0+(1:Int))))))))))else some (.inl a3))
def aec(fu:Nat)(a2:Str)(a3:Int):Nat->Int->Int->Option (Int⊕Bool):=fun k_ a0 a1=>loopF (fun(g:(Int×Int)->Option (Int⊕Bool)) v=>afb fu a2 a3 (fun a0 a1=>g (a0,a1)) v.1 v.2) k_ (a0,a1)
theorem aln{fu:Nat}{a0:Str}{a1:Int}{k_:Nat}{a2:Int}{a3:Int}:aec fu a0 a1 (k_+1) a2 a3=afb fu a0 a1 (aec fu a0 a1 k_) a2 a3:=rfl
def afc(fu:Nat)(a1:Str)(a3:Int->Option (Unit⊕Bool))(a0:Int):Option (Unit⊕Bool):=
 (if a0<((spl 46 a1).length:Int)then(((gd (0<=a0/\a0<((spl 46 a1).length:Int))<|(gd (0<=a0/\a0<((spl 46 a1).length:Int))<|(((aec fu a1 a0 fu (0:Int) (0:Int))).bind fun(a4:(Int⊕Bool))=>zaE (fun(a2:Int)=>(((if(el (spl 46 a1) a0)=([]:Str)then some true else(if(255:Int)<a2 then some true else(gd (acd a2)<|some (!decide ((el (spl 46 a1) a0)=(Lib.itoa a2))))))).bind fun(a5:Bool)=>(bif a5 then some (.inr false)else some (.inl ())))) (fun q=>some (.inr q)) a4)))).bind fun(a6:(Unit⊕Bool))=>zaE (fun(a7:Unit)=>(gd (acd (a0+(1:Int)))<|(a3 (a0+(1:Int))))) (fun q=>some (.inr q)) a6)else some (.inl ()))
def aed(fu:Nat)(a1:Str):Nat->Int->Option (Unit⊕Bool):=fun k_ a0=>loopF (fun(g:Int->Option (Unit⊕Bool)) v=>afc fu a1 (fun a0=>g a0) v) k_ a0
theorem alo{fu:Nat}{a0:Str}{k_:Nat}{a1:Int}:aed fu a0 (k_+1) a1=afc fu a0 (aed fu a0 k_) a1:=rfl
def aks(fu:Nat)(a0:Str):Option Bool:=
 (if(15:Int)<(a0.length:Int)then some false else(gd (a0.length<=1000000000)<|(((aed fu a0 fu (0:Int))).bind fun(a1:(Unit⊕Bool))=>zaE (fun(a2:Unit)=>some (decide (((spl 46 a0).length:Int)=(4:Int)))) (fun q=>some q) a1)))
def amm(fu:Nat)(a0:Str)(a1:Str)(a2:Int):Option (Str×Str×Int):=
 some (a1,a0,a2)
def amn(fu:Nat)(a0:Str)(a1:Str):Option (Str×Str×Int):=
 ((amm fu a0 a1 (0:Int)).bind fun(y1:(Str×Str×Int))=>some (y1.1,y1.2.1,y1.2.2))
def ama(fu:Nat)(a0:UInt8):Option Bool:=
 (((if(97:UInt8)<=a0 then(if a0<=(122:UInt8)then some true else(if(65:UInt8)<=a0 then some (decide (a0<=(90:UInt8)))else some false))else(if(65:UInt8)<=a0 then some (decide (a0<=(90:UInt8)))else some false))).bind fun(v8:Bool)=>some v8)
open Go.Lib renaming index -> zar
open List renaming drop -> zak, take -> zaS
def aee(fu:Nat)(a1:Str)(a4:Bool)(a3:Int->Bool->Option ((Nat×Bool×Bool)))(a0:Int)(a2:Bool):Option ((Nat×Bool×Bool)):=
 (if a0<(a1.length:Int)then(gd (0<=a0/\a0<(a1.length:Int))<|((((ama fu (at_ a1 a0)).bind fun(a5:Bool)=>(bif (!a5)then((aer fu (at_ a1 a0)).bind fun(a6:Bool)=>(bif (!a6)then some (!decide ((at_ a1 a0)=(45:UInt8)))else some false))else some false))).bind fun(a7:Bool)=>(bif a7 then some (1,a2,false)else(bif a2 then(gd (acd (a0+(1:Int)))<|(a3 (a0+(1:Int)) true))else((aer fu (at_ a1 a0)).bind fun(a8:Bool)=>(gd (acd (a0+(1:Int)))<|(a3 (a0+(1:Int)) (!a8))))))))else some (0,a2,a4))
def abn(fu:Nat)(a2:Str)(a3:Bool):Nat->Int->Bool->Option ((Nat×Bool×Bool)):=fun k_ a0 a1=>loopF (fun(g:(Int×Bool)->Option ((Nat×Bool×Bool))) v=>aee fu a2 a3 (fun a0 a1=>g (a0,a1)) v.1 v.2) k_ (a0,a1)
theorem ajm{fu:Nat}{a0:Str}{a1:Bool}{k_:Nat}{a2:Int}{a3:Bool}:abn fu a0 a1 (k_+1) a2 a3=aee fu a0 a1 (abn fu a0 a1 k_) a2 a3:=rfl
def acu(fu:Nat)(a0:Str)(a1:Bool)(a2:Bool):Option (Nat×Bool×Bool):=
 (((if(a0.length:Int)<(1:Int)then some true else(if(63:Int)<(a0.length:Int)then some true else(gd (0<=(0:Int)/\(0:Int)<(a0.length:Int))<|(if(at_ a0 (0:Int))=(45:UInt8)then some true else(gd (acd ((a0.length:Int)-(1:Int)))<|(gd (0<=((a0.length:Int)-(1:Int))/\((a0.length:Int)-(1:Int))<(a0.length:Int))<|some (decide ((at_ a0 ((a0.length:Int)-(1:Int)))=(45:UInt8)))))))))).bind fun(a3:Bool)=>(bif a3 then some (1,a1,false)else(abn fu a0 a2 fu (0:Int) a1)))
def acr(fu:Nat)(a0:Str)(a1:Option Unit):Option Unit:=
 (if(0:Int)<(a0.length:Int)then none else some ())
def abt(fu:Nat)(a0:Str):Nat->Option Unit:=fun k_=>loopF (fun(g:Unit->Option Unit) v=>acr fu a0 (g ())) k_ ()
theorem akx{fu:Nat}{a0:Str}{k_:Nat}:abt fu a0 (k_+1)=acr fu a0 (abt fu a0 k_):=rfl
def aaw(fu:Nat)(a1:Str)(a3:Int)(a6:Bool->Bool->Str->Option ((Bool×Bool×Str)⊕(Bool×Bool×Str×Nat)))(a4:Bool)(a5:Bool)(a0:Str):Option ((Bool×Bool×Str)⊕(Bool×Bool×Str×Nat)):=
 (gd (a0.length<=1000000000)<|(if(zar a0 a1)<(0:Int)then some (.inl (a4,a5,a0))else(gd (acd ((zar a0 a1)+a3))<|(gd (0<=((zar a0 a1)+a3)/\((zar a0 a1)+a3)<=(a0.length:Int))<|((acu fu (zaS (zaf ((zar a0 a1)+a3)) a0) a4 a5).bind fun(a2:(Nat×Bool×Bool))=>(if a2.1=0 then(gd (acd ((zar a0 a1)+(a1.length:Int)))<|(gd (0<=((zar a0 a1)+(a1.length:Int))/\((zar a0 a1)+(a1.length:Int))<=(a0.length:Int))<|(a6 a2.2.1 a2.2.2 (zak (zaf ((zar a0 a1)+(a1.length:Int))) a0))))else some (.inr (a2.2.1,a2.2.2,a0,a2.1))))))))
def aax(fu:Nat)(a3:Str)(a4:Int):Nat->Bool->Bool->Str->Option ((Bool×Bool×Str)⊕(Bool×Bool×Str×Nat)):=fun k_ a0 a1 a2=>loopF (fun(g:(Bool×Bool×Str)->Option ((Bool×Bool×Str)⊕(Bool×Bool×Str×Nat))) v=>aaw fu a3 a4 (fun a0 a1 a2=>g (a0,a1,a2)) v.1 v.2.1 v.2.2) k_ (a0,a1,a2)
theorem ack{fu:Nat}{a0:Str}{a1:Int}{k_:Nat}{a2:Bool}{a3:Bool}{a4:Str}:aax fu a0 a1 (k_+1) a2 a3 a4=aaw fu a0 a1 (aax fu a0 a1 k_) a2 a3 a4:=rfl
def acg(fu:Nat)(a3:Bool)(a4:Bool)(a5:Str)(a2:Str)(a6:Int):Option (Bool×Bool×Str×Nat):=
 (((if(a5.length:Int)=(0:Int)then(((abt fu a2 fu)).bind fun(a9:Unit)=>some (.inr (a3,a4,a2,0)))else some (.inl ()))).bind fun(a7:(Unit⊕(Bool×Bool×Str×Nat)))=>zaE (fun(b0:Unit)=>(((aax fu a5 a6 fu a3 a4 a2)).bind fun(a8:((Bool×Bool×Str)⊕(Bool×Bool×Str×Nat)))=>zaE (fun(a1:(Bool×Bool×Str))=>((acu fu a1.2.2 a1.1 a1.2.1).bind fun(a0:(Nat×Bool×Bool))=>(if a0.1=0 then some (a0.2.1,a0.2.2,a1.2.2,0)else some (a0.2.1,a0.2.2,a1.2.2,a0.1)))) (fun q=>some q) a8)) (fun q=>some q) a7)
def ana(fu:Nat)(a1:Str):Option Bool:=
 (((if(a1.length:Int)<(1:Int)then some true else some (decide ((255:Int)<(a1.length:Int))))).bind fun(v8:Bool)=>(bif v8 then some false else((amn fu a1 ([46]:Str)).bind fun(a2:(Str×Str×Int))=>((acg fu false false a2.1 a2.2.1 a2.2.2).bind fun(a0:(Bool×Bool×Str×Nat))=>(if a0.2.2.2=0 then some a0.1 else(if a0.2.2.2=1 then some a0.2.1 else none))))))
def amg(fu:Nat)(a0:Str):Option (Str×Bool):=
 (((if(2:Int)<=(a0.length:Int)then(gd (0<=(0:Int)/\(0:Int)<(a0.length:Int))<|(if(at_ a0 (0:Int))=(91:UInt8)then(gd (acd ((a0.length:Int)-(1:Int)))<|(gd (0<=((a0.length:Int)-(1:Int))/\((a0.length:Int)-(1:Int))<(a0.length:Int))<|some (decide ((at_ a0 ((a0.length:Int)-(1:Int)))=(93:UInt8)))))else some false))else some false)).bind fun(v9:Bool)=>(bif v9 then(gd (acd ((a0.length:Int)-(1:Int)))<|(gd (0<=(1:Int)/\(1:Int)<=((a0.length:Int)-(1:Int))/\((a0.length:Int)-(1:Int))<=(a0.length:Int))<|((amb fu (sub a0 (1:Int) ((a0.length:Int)-(1:Int)))).bind fun(a1:(Str×Bool))=>(bif (!a1.2)then some (([]:Str),false)else(gd (([91]:Str).length+a1.1.length<=9223372036854775807)<|(gd ((([91]:Str)++a1.1).length+([93]:Str).length<=9223372036854775807)<|some ((([91]:Str)++a1.1)++([93]:Str),true)))))))else((aks fu a0).bind fun(a2:Bool)=>(bif a2 then some (a0,true)else((ana fu a0).bind fun(a3:Bool)=>(bif a3 then((aeq fu a0).bind fun(a4:Str)=>some (a4,true))else some (([]:Str),false)))))))
def afk(fu:Nat)(a1:Str)(a3:Int->Int->Option (Int⊕(Int×UInt8)))(a2:Int)(a0:Int):Option (Int⊕(Int×UInt8)):=
 (if a0<(a1.length:Int)then(((gd (0<=a0/\a0<(a1.length:Int))<|(if(at_ a1 a0)<(48:UInt8)then some true else(gd (0<=a0/\a0<(a1.length:Int))<|some (decide ((57:UInt8)<(at_ a1 a0))))))).bind fun(a4:Bool)=>(bif a4 then some (.inr ((0:Int),(5:UInt8)))else(gd (acd ((10:Int)*a2))<|(gd (0<=a0/\a0<(a1.length:Int))<|(gd (acd (((10:Int)*a2)+(((at_ a1 a0)-(48:UInt8)).toNat:Int)))<|(gd (acd (a0+(1:Int)))<|(a3 (((10:Int)*a2)+(((at_ a1 a0)-(48:UInt8)).toNat:Int)) (a0+(1:Int)))))))))else some (.inl a2))
def agm(fu:Nat)(a2:Str):Nat->Int->Int->Option (Int⊕(Int×UInt8)):=fun k_ a0 a1=>loopF (fun(g:(Int×Int)->Option (Int⊕(Int×UInt8))) v=>afk fu a2 (fun a0 a1=>g (a0,a1)) v.1 v.2) k_ (a0,a1)
theorem ajq{fu:Nat}{a0:Str}{k_:Nat}{a1:Int}{a2:Int}:agm fu a0 (k_+1) a1 a2=afk fu a0 (agm fu a0 k_) a1 a2:=rfl
def aog(fu:Nat)(a0:Str):Option (Int×UInt8):=
 (((if(a0.length:Int)<(1:Int)then some true else some (decide ((10:Int)<(a0.length:Int))))).bind fun(v5:Bool)=>(bif v5 then some ((0:Int),(5:UInt8))else(((agm fu a0 fu (0:Int) (0:Int))).bind fun(a2:(Int⊕(Int×UInt8)))=>zaE (fun(a1:Int)=>(if(2147483647:Int)<a1 then some ((0:Int),(3:UInt8))else some (a1,(0:UInt8)))) (fun q=>some q) a2)))
def acb(fu:Nat)(a0:(Str×Int)):Option (Str×Int):=
 ((ajk fu a0.1 a0.2).bind fun(y1:Int)=>some (a0.1,y1))
def afd(fu:Nat)(a0:(Str×Int)):Option Bool:=
 some (decide ((a0.1.length:Int)<=a0.2))
def acm(fu:Nat)(a0:(Str×Int))(a1:UInt8):Option Bool:=
 ((((afd fu a0).bind fun(a2:Bool)=>(bif (!a2)then(gd (0<=a0.2/\a0.2<(a0.1.length:Int))<|some (decide ((at_ a0.1 a0.2)=a1)))else some false))).bind fun(a3:Bool)=>some a3)
open Go.Lib renaming indexAny -> zaR
open List renaming drop -> zak
def adq(fu:Nat)(a0:(Str×Int)):Option (Str×(Str×Int)):=
 ((aew fu a0.1 a0.2).bind fun(y1:Int)=>(gd (0<=a0.2/\a0.2<=y1/\y1<=(a0.1.length:Int))<|some (sub a0.1 a0.2 y1,(a0.1,y1))))
def agv(fu:Nat)(a1:Str)(a0:Int)(a2:Str):Option Int:=
 (gd (0<=a0/\a0<=(a1.length:Int))<|(gd ((zak (zaf a0) a1).length<=1000000000/\a2.length<=1000/\a2.all (fun b=>decide (b.toNat<128))=true)<|(if(0:Int)<=(zaR (zak (zaf a0) a1) a2)then(gd (acd (a0+(zaR (zak (zaf a0) a1) a2)))<|some (a0+(zaR (zak (zaf a0) a1) a2)))else some (a1.length:Int))))
def aes(fu:Nat)(a7:(Str×Int)):Option (PQ×Int×UInt8×(Str×Int)):=
 ((adq fu a7).bind fun(y4:(Str×(Str×Int)))=>((aeq fu y4.1).bind fun(a2:Str)=>(if a2=([]:Str)then some ((([]:Str),([]:Str),false),y4.2.2,(5:UInt8),y4.2)else((acb fu y4.2).bind fun(a3:(Str×Int))=>((acm fu a3 (61:UInt8)).bind fun(a8:Bool)=>(bif (!a8)then some ((a2,([]:Str),false),(0:Int),(0:UInt8),a3)else(gd (acd (a3.2+(1:Int)))<|((acb fu (a3.1,a3.2+(1:Int))).bind fun(a0:(Str×Int))=>((acm fu a0 (34:UInt8)).bind fun(a9:Bool)=>(bif a9 then((akq fu a0.1 a0.2).bind fun(a4:(Str×Int×UInt8))=>(if a4.2.2=(0:UInt8)then some ((a2,a4.1,true),(0:Int),(0:UInt8),(a0.1,a4.2.1))else some ((([]:Str),([]:Str),false),a4.2.1,a4.2.2,a0)))else((acm fu a0 (91:UInt8)).bind fun(b0:Bool)=>(bif b0 then((agv fu a0.1 a0.2 ([93]:Str)).bind fun(a1:Int)=>(gd (acd (a1+(1:Int)))<|(gd (0<=a0.2/\a0.2<=(min (a1+(1:Int)) (a0.1.length:Int))/\(min (a1+(1:Int)) (a0.1.length:Int))<=(a0.1.length:Int))<|((amg fu (sub a0.1 a0.2 (min (a1+(1:Int)) (a0.1.length:Int)))).bind fun(a6:(Str×Bool))=>(bif (!a6.2)then some ((([]:Str),([]:Str),false),a0.2,(5:UInt8),a0)else(gd (acd (a1+(1:Int)))<|some ((a2,a6.1,true),(0:Int),(0:UInt8),(a0.1,a1+(1:Int)))))))))else((adq fu a0).bind fun(a5:(Str×(Str×Int)))=>(if a5.1=([]:Str)then some ((([]:Str),([]:Str),false),a5.2.2,(5:UInt8),a5.2)else some ((a2,a5.1,true),(0:Int),(0:UInt8),a5.2)))))))))))))))
def akt(fu:Nat)(a0:PQ)(a1:Str):Option Bool:=
 some (decide (a0.1=a1))
def aak(fu:Nat)(a1:LQ)(a2:Str)(a3:Int->Option (Unit⊕Int))(a0:Int):Option (Unit⊕Int):=
 (if a0<(a1.length:Int)then(gd (0<=a0/\a0<(a1.length:Int))<|(gd (0<=a0/\a0<(a1.length:Int))<|((akt fu ((el a1 a0).1,(el a1 a0).2.1,((el a1 a0).2.2)) a2).bind fun(a4:Bool)=>(bif a4 then some (.inr a0)else(gd (acd (a0+(1:Int)))<|(a3 (a0+(1:Int))))))))else some (.inl ()))
def aav(fu:Nat)(a1:LQ)(a2:Str):Nat->Int->Option (Unit⊕Int):=fun k_ a0=>loopF (fun(g:Int->Option (Unit⊕Int)) v=>aak fu a1 a2 (fun a0=>g a0) v) k_ a0
theorem abf{fu:Nat}{a0:LQ}{a1:Str}{k_:Nat}{a2:Int}:aav fu a0 a1 (k_+1) a2=aak fu a0 a1 (aav fu a0 a1 k_) a2:=rfl
def abx(fu:Nat)(a0:LQ)(a1:Str):Option Int:=
 (((aav fu a0 a1 fu (0:Int))).bind fun(a2:(Unit⊕Int))=>zaE (fun(a3:Unit)=>some (-1:Int)) (fun q=>some q) a2)
def abm(fu:Nat)(a0:LQ)(a1:Str):Option Bool:=
 ((abx fu a0 a1).bind fun(y1:Int)=>some (decide ((0:Int)<=y1)))
def anc(fu:Nat)(a0:LQ)(a1:Str):Option Bool:=
 ((abm fu a0 a1).bind fun(y4:Bool)=>some y4)
def aoh(fu:Nat)(a0:LQ)(a1:Str):Option UInt8:=
 ((anc fu a0 a1).bind fun(y1:Bool)=>(bif y1 then some (7:UInt8)else(if(16:Int)<=(a0.length:Int)then some (4:UInt8)else some (0:UInt8))))
open Go.Lib renaming indexAny -> zaR, join -> zax
open List renaming drop -> zak, replicate -> zat, set -> zbd, take -> zaS
def aft(fu:Nat)(a5:LQ->Str->Int->Option (LQ×Int×UInt8))(a2:LQ)(a6:Str)(a7:Int):Option (LQ×Int×UInt8):=
 ((acb fu (a6,a7)).bind fun(a1:(Str×Int))=>((afd fu a1).bind fun(a8:Bool)=>(bif a8 then some (a2,(0:Int),(0:UInt8))else((acm fu a1 (59:UInt8)).bind fun(a9:Bool)=>(bif (!a9)then some (([]:LQ),a1.2,(5:UInt8))else(gd (acd (a1.2+(1:Int)))<|((acb fu (a1.1,a1.2+(1:Int))).bind fun(a4:(Str×Int))=>((aes fu a4).bind fun(a0:(PQ×Int×UInt8×(Str×Int)))=>(((if a0.2.2.1=(0:UInt8)then((aoh fu a2 a0.1.1).bind fun(b0:UInt8)=>some (a4.2,b0))else some (a0.2.1,a0.2.2.1))).bind fun(a3:(Int×UInt8))=>(if a3.2=(0:UInt8)then(gd ((a2.length+([a0.1]:LQ).length)*40<=140737488355328)<|(a5 (a2++([a0.1]:LQ)) a0.2.2.2.1 a0.2.2.2.2))else some (([]:LQ),a3.1,a3.2)))))))))))
def agx(fu:Nat):Nat->LQ->Str->Int->Option (LQ×Int×UInt8):=fun k_ a0 a1 a2=>loopF (fun(g:(LQ×Str×Int)->Option (LQ×Int×UInt8)) v=>aft fu (fun a0 a1 a2=>g (a0,a1,a2)) v.1 v.2.1 v.2.2) k_ (a0,a1,a2)
theorem amk{fu:Nat}{k_:Nat}{a0:LQ}{a1:Str}{a2:Int}:agx fu (k_+1) a0 a1 a2=aft fu (agx fu k_) a0 a1 a2:=rfl
def aio(fu:Nat)(a0:Str):Option (LQ×Int×UInt8):=
 (agx fu fu ([]:LQ) a0 (0:Int))
def aje(fu:Nat)(a1:LQ)(y1:Str)(a2:Int->Option (Unit⊕(Str×Bool)))(a0:Int):Option (Unit⊕(Str×Bool)):=
 (if a0<(a1.length:Int)then(gd (0<=a0/\a0<(a1.length:Int))<|(gd (0<=a0/\a0<(a1.length:Int))<|((aeq fu ((el a1 a0).1)).bind fun(a3:Str)=>(if a3=y1 then some (.inr ((el a1 a0).2.1,true))else(gd (acd (a0+(1:Int)))<|(a2 (a0+(1:Int))))))))else some (.inl ()))
def ahp(fu:Nat)(a1:LQ)(y1:Str):Nat->Int->Option (Unit⊕(Str×Bool)):=fun k_ a0=>loopF (fun(g:Int->Option (Unit⊕(Str×Bool))) v=>aje fu a1 y1 (fun a0=>g a0) v) k_ a0
theorem aov{fu:Nat}{a0:LQ}{y1:Str}{k_:Nat}{a1:Int}:ahp fu a0 y1 (k_+1) a1=aje fu a0 y1 (ahp fu a0 y1 k_) a1:=rfl
def anp(fu:Nat)(a0:LQ)(a1:Str):Option (Str×Bool):=
 ((aeq fu a1).bind fun(y1:Str)=>(((ahp fu a0 y1 fu (0:Int))).bind fun(a2:(Unit⊕(Str×Bool)))=>zaE (fun(a3:Unit)=>some (([]:Str),false)) (fun q=>some q) a2))
def apd(fu:Nat)(a8:Str):Option ((Str×Str×Int×Str×LQ)×UInt8):=
 ((aqd fu a8).bind fun(y4:Str)=>(((if(y4.length:Int)<(8:Int)then some true else(gd (0<=(8:Int)/\(8:Int)<=(y4.length:Int))<|((abb fu (zaS (zaf (8:Int)) y4)).bind fun(a9:Str)=>some (!decide (a9=([83,73,80,47,50,46,48,47]:Str))))))).bind fun(b0:Bool)=>(bif b0 then some ((([]:Str),([]:Str),(0:Int),([]:Str),([]:LQ)),(5:UInt8))else((aew fu y4 (8:Int)).bind fun(a1:Int)=>((ajk fu y4 a1).bind fun(a0:Int)=>(((if a1=(8:Int)then some true else some (decide (a0=a1)))).bind fun(b1:Bool)=>(bif b1 then some ((([]:Str),([]:Str),(0:Int),([]:Str),([]:LQ)),(5:UInt8))else(gd (0<=(8:Int)/\(8:Int)<=a1/\a1<=(y4.length:Int))<|((abb fu (sub y4 (8:Int) a1)).bind fun(b2:Str)=>(gd (0<=a0/\a0<=(y4.length:Int))<|(((gd ((zak (zaf a0) y4).length<=1000000000/\([59,32,9]:Str).length<=1000/\([59,32,9]:Str).all (fun b=>decide (b.toNat<128))=true)<|(if(0:Int)<=(zaR (zak (zaf a0) y4) ([59,32,9]:Str))then(gd (0<=(zaR (zak (zaf a0) y4) ([59,32,9]:Str))/\(zaR (zak (zaf a0) y4) ([59,32,9]:Str))<=((zak (zaf a0) y4).length:Int))<|(gd (0<=(zaR (zak (zaf a0) y4) ([59,32,9]:Str))/\(zaR (zak (zaf a0) y4) ([59,32,9]:Str))<=((zak (zaf a0) y4).length:Int))<|some (zaS (zaf (zaR (zak (zaf a0) y4) ([59,32,9]:Str))) (zak (zaf a0) y4),zak (zaf (zaR (zak (zaf a0) y4) ([59,32,9]:Str))) (zak (zaf a0) y4))))else some (zak (zaf a0) y4,([]:Str))))).bind fun(a5:(Str×Str))=>((aly fu a5.1).bind fun(a4:PQ)=>((amg fu a4.1).bind fun(a6:(Str×Bool))=>(bif (!a6.2)then some ((([]:Str),([]:Str),(0:Int),([]:Str),([]:LQ)),(5:UInt8))else(((bif a4.2.2 then((aog fu a4.2.1).bind fun(a2:(Int×UInt8))=>(((((if a2.2=(0:UInt8)then(if a2.1<(1:Int)then some true else some (decide ((65535:Int)<a2.1)))else some false)).bind fun(b3:Bool)=>(bif b3 then some (3:UInt8)else some a2.2))).bind fun(a7:UInt8)=>(if a7=(0:UInt8)then some (.inl a2.1)else some (.inr ((([]:Str),([]:Str),(0:Int),([]:Str),([]:LQ)),a7)))))else some (.inl (0:Int)))).bind fun(b4:(Int⊕((Str×Str×Int×Str×LQ)×UInt8)))=>zaE (fun(b5:Int)=>((aio fu a5.2).bind fun(a3:(LQ×Int×UInt8))=>(if a3.2.2=(0:UInt8)then((anp fu a3.1 ([98,114,97,110,99,104]:Str)).bind fun(b6:(Str×Bool))=>some ((b2,a6.1,b5,b6.1,a3.1),(0:UInt8)))else some ((([]:Str),([]:Str),(0:Int),([]:Str),([]:LQ)),a3.2.2)))) (fun q=>some q) b4)))))))))))))))
def ahi(fu:Nat)(a0:Str)(a1:Int):Option Str:=
 (((if a1=(0:Int)then some (5060:Int)else some a1)).bind fun(v5:Int)=>(gd (a0.length+([58]:Str).length<=9223372036854775807)<|(gd (acd v5)<|(gd ((a0++([58]:Str)).length+(Lib.itoa v5).length<=9223372036854775807)<|some ((a0++([58]:Str))++(Lib.itoa v5))))))
def alx(fu:Nat)(m_0:(Str×Str×Int×Str×(List (Str×Str))×(List UInt8))):Option (Str×Str×Int×Str×(List (Str×Str))×(List UInt8)):=
 (@gd _ (0<=(m_0.2.2.2.2.1.length:Int)/\(32:Int)*(m_0.2.2.2.2.1.length:Int)<=281474976710656) (dMk 32 (m_0.2.2.2.2.1.length:Int))<|(gd ((0+m_0.2.2.2.2.2.length)*1<=140737488355328)<|some (m_0.1,m_0.2.1,m_0.2.2.1,m_0.2.2.2.1,cpy (zat (zaf (m_0.2.2.2.2.1.length:Int)) (([]:Str),([]:Str))) m_0.2.2.2.2.1,m_0.2.2.2.2.2)))
def aas(fu:Nat)(a1:List (Str×Str))(a2:UInt8)(a3:Str)(a4:Int->Option (Unit⊕Int))(a0:Int):Option (Unit⊕Int):=
 (if a0<(a1.length:Int)then(gd (0<=a0/\a0<(a1.length:Int))<|(gd (0<=a0/\a0<(a1.length:Int))<|((ahm fu (el a1 a0) a2 a3).bind fun(a5:Bool)=>(bif a5 then some (.inr a0)else(gd (acd (a0+(1:Int)))<|(a4 (a0+(1:Int))))))))else some (.inl ()))
def aal(fu:Nat)(a1:List (Str×Str))(a2:UInt8)(a3:Str):Nat->Int->Option (Unit⊕Int):=fun k_ a0=>loopF (fun(g:Int->Option (Unit⊕Int)) v=>aas fu a1 a2 a3 (fun a0=>g a0) v) k_ a0
theorem acf{fu:Nat}{a0:List (Str×Str)}{a1:UInt8}{a2:Str}{k_:Nat}{a3:Int}:aal fu a0 a1 a2 (k_+1) a3=aas fu a0 a1 a2 (aal fu a0 a1 a2 k_) a3:=rfl
def aay(fu:Nat)(a0:List (Str×Str))(a1:UInt8)(a2:Str):Option Int:=
 (((aal fu a0 a1 a2 fu (0:Int))).bind fun(a3:(Unit⊕Int))=>zaE (fun(a4:Unit)=>some (-1:Int)) (fun q=>some q) a3)
def ahz(fu:Nat)(m_0:(Str×Str×Int×Str×(List (Str×Str))×(List UInt8)))(a2:Str):Option (Str×Str×Int×Str×(List (Str×Str))×(List UInt8)):=
 ((alx fu m_0).bind fun(y7:(Str×Str×Int×Str×(List (Str×Str))×(List UInt8)))=>((akp fu a2).bind fun(a3:(UInt8×Str))=>((aay fu y7.2.2.2.2.1 a3.1 a3.2).bind fun(a0:Int)=>(if a0<(0:Int)then some y7 else((((ano fu a2).bind fun(a4:Bool)=>(bif a4 then(gd (0<=a0/\a0<(y7.2.2.2.2.1.length:Int))<|(gd (0<=a0/\a0<(y7.2.2.2.2.1.length:Int))<|((agj fu ((el y7.2.2.2.2.1 a0).2)).bind fun(a1:List Str)=>(if(1:Int)<(a1.length:Int)then(gd (0<=(1:Int)/\(1:Int)<=(a1.length:Int))<|(gd ((zak (zaf (1:Int)) a1).length<=1000000000/\(zax (zak (zaf (1:Int)) a1) ([44,32]:Str)).length<=100000000000)<|(gd (0<=a0/\a0<(y7.2.2.2.2.1.length:Int))<|(gd (0<=a0/\a0<(y7.2.2.2.2.1.length:Int))<|some (.inr (y7.1,y7.2.1,y7.2.2.1,y7.2.2.2.1,zbd y7.2.2.2.2.1 (zaf a0) ((el y7.2.2.2.2.1 a0).1,zax (zak (zaf (1:Int)) a1) ([44,32]:Str)),y7.2.2.2.2.2))))))else some (.inl ())))))else some (.inl ())))).bind fun(a5:(Unit⊕(Str×Str×Int×Str×(List (Str×Str))×(List UInt8))))=>zaE (fun(a6:Unit)=>(gd (acd (a0+(1:Int)))<|(gd (0<=a0/\a0<=(a0+(1:Int))/\(a0+(1:Int))<=(y7.2.2.2.2.1.length:Int))<|some (y7.1,y7.2.1,y7.2.2.1,y7.2.2.2.1,delL y7.2.2.2.2.1 a0 (a0+(1:Int)),y7.2.2.2.2.2)))) (fun q=>some q) a5)))))
def aoc(fu:Nat)(m_0:(Str×Str×Int×Str×(List (Str×Str))×(List UInt8)))(a5:Str):Option ((Str×Str×Int×Str×(List (Str×Str))×(List UInt8))×Str×UInt8):=
 (((if m_0.2.2.1<(100:Int)then some true else some (decide ((699:Int)<m_0.2.2.1)))).bind fun(a6:Bool)=>(bif a6 then some ((([]:Str),([]:Str),(0:Int),([]:Str),([]:List (Str×Str)),([]:List UInt8)),([]:Str),(2:UInt8))else((anl fu m_0 ([86,105,97]:Str)).bind fun(a0:List Str)=>(if(a0.length:Int)=(0:Int)then some ((([]:Str),([]:Str),(0:Int),([]:Str),([]:List (Str×Str)),([]:List UInt8)),([]:Str),(8:UInt8))else(gd (0<=(0:Int)/\(0:Int)<(a0.length:Int))<|(gd (0<=(0:Int)/\(0:Int)<(a0.length:Int))<|((apd fu (el a0 (0:Int))).bind fun(a3:((Str×Str×Int×Str×LQ)×UInt8))=>(((if a3.2=(0:UInt8)then((ahi fu a3.1.2.1 a3.1.2.2.1).bind fun(a7:Str)=>some (!decide (a7=a5)))else some true)).bind fun(a8:Bool)=>(bif a8 then some ((([]:Str),([]:Str),(0:Int),([]:Str),([]:List (Str×Str)),([]:List UInt8)),([]:Str),(8:UInt8))else((ahz fu m_0 ([86,105,97]:Str)).bind fun(a1:(Str×Str×Int×Str×(List (Str×Str))×(List UInt8)))=>((anl fu a1 ([86,105,97]:Str)).bind fun(a2:List Str)=>(if(a2.length:Int)=(0:Int)then some (a1,([]:Str),(0:UInt8))else(gd (0<=(0:Int)/\(0:Int)<(a2.length:Int))<|(gd (0<=(0:Int)/\(0:Int)<(a2.length:Int))<|((apd fu (el a2 (0:Int))).bind fun(a4:((Str×Str×Int×Str×LQ)×UInt8))=>(if a4.2=(0:UInt8)then((ahi fu a4.1.2.1 a4.1.2.2.1).bind fun(a9:Str)=>some (a1,a9,(0:UInt8)))else some (a1,([]:Str),(0:UInt8))))))))))))))))))
open List renaming drop -> zak, set -> zbd
def amj(fu:Nat)(a1:UInt8)(a2:Int->Option (Unit⊕Bool))(a0:Int):Option (Unit⊕Bool):=
 (if a0<(([45,46,33,37,42,95,43,39,126]:Str).length:Int)then(gd (0<=a0/\a0<(([45,46,33,37,42,95,43,39,126]:Str).length:Int))<|(if(at_ ([45,46,33,37,42,95,43,39,126]:Str) a0)=a1 then some (.inr true)else(gd (acd (a0+(1:Int)))<|(a2 (a0+(1:Int))))))else some (.inl ()))
def aiv(fu:Nat)(a1:UInt8):Nat->Int->Option (Unit⊕Bool):=fun k_ a0=>loopF (fun(g:Int->Option (Unit⊕Bool)) v=>amj fu a1 (fun a0=>g a0) v) k_ a0
theorem aus{fu:Nat}{a0:UInt8}{k_:Nat}{a1:Int}:aiv fu a0 (k_+1) a1=amj fu a0 (aiv fu a0 k_) a1:=rfl
def akn(fu:Nat)(a0:UInt8):Option Bool:=
 (((if(65:UInt8)<=a0 then(if a0<=(90:UInt8)then some true else(if(97:UInt8)<=a0 then(if a0<=(122:UInt8)then some true else(if(48:UInt8)<=a0 then some (decide (a0<=(57:UInt8)))else some false))else(if(48:UInt8)<=a0 then some (decide (a0<=(57:UInt8)))else some false)))else(if(97:UInt8)<=a0 then(if a0<=(122:UInt8)then some true else(if(48:UInt8)<=a0 then some (decide (a0<=(57:UInt8)))else some false))else(if(48:UInt8)<=a0 then some (decide (a0<=(57:UInt8)))else some false)))).bind fun(a1:Bool)=>(bif a1 then some true else(((aiv fu a0 fu (0:Int))).bind fun(a2:(Unit⊕Bool))=>zaE (fun(a3:Unit)=>some (decide (a0=(96:UInt8)))) (fun q=>some q) a2)))
def afs(fu:Nat)(a1:Str)(a2:Int->Option Int)(a0:Int):Option Int:=
 (((if a0<(a1.length:Int)then(gd (0<=a0/\a0<(a1.length:Int))<|((akn fu (at_ a1 a0)).bind fun(a3:Bool)=>some a3))else some false)).bind fun(a4:Bool)=>(bif a4 then(gd (acd (a0+(1:Int)))<|(a2 (a0+(1:Int))))else some a0))
def agr(fu:Nat)(a1:Str):Nat->Int->Option Int:=fun k_ a0=>loopF (fun(g:Int->Option Int) v=>afs fu a1 (fun a0=>g a0) v) k_ a0
theorem ami{fu:Nat}{a0:Str}{k_:Nat}{a1:Int}:agr fu a0 (k_+1) a1=afs fu a0 (agr fu a0 k_) a1:=rfl
def aev(fu:Nat)(a0:Str)(a1:Int):Option Int:=
 (((agr fu a0 fu (min (max a1 (0:Int)) (a0.length:Int)))).bind fun(a2:Int)=>some a2)
def apz(fu:Nat)(a0:Str):Option Bool:=
 (((if a0=([]:Str)then some false else((aev fu a0 (0:Int)).bind fun(a1:Int)=>some (decide (a1=(a0.length:Int)))))).bind fun(a2:Bool)=>some a2)
def aiu(fu:Nat)(a3:Str)(a2:Str->Int->Option Str)(a1:Str)(a0:Int):Option Str:=
 (if a0<(a3.length:Int)then(((gd (0<=a0/\a0<(a1.length:Int))<|(gd (0<=a0/\a0<(a1.length:Int))<|(if(65:UInt8)<=(at_ a1 a0)then(gd (0<=a0/\a0<(a1.length:Int))<|(gd (0<=a0/\a0<(a1.length:Int))<|some (decide ((at_ a1 a0)<=(90:UInt8)))))else some false)))).bind fun(a4:Bool)=>(bif a4 then(gd (0<=a0/\a0<(a1.length:Int))<|(gd (0<=a0/\a0<(a1.length:Int))<|(gd (0<=a0/\a0<(a1.length:Int))<|(gd (0<=a0/\a0<(a1.length:Int))<|(gd (acd (a0+(1:Int)))<|(a2 (zbd a1 (zaf a0) ((at_ a1 a0)+(32:UInt8))) (a0+(1:Int))))))))else(gd (acd (a0+(1:Int)))<|(a2 a1 (a0+(1:Int))))))else some a1)
def akj(fu:Nat)(a2:Str):Nat->Str->Int->Option Str:=fun k_ a0 a1=>loopF (fun(g:(Str×Int)->Option Str) v=>aiu fu a2 (fun a0 a1=>g (a0,a1)) v.1 v.2) k_ (a0,a1)
theorem aoq{fu:Nat}{a0:Str}{k_:Nat}{a1:Str}{a2:Int}:akj fu a0 (k_+1) a1 a2=aiu fu a0 (akj fu a0 k_) a1 a2:=rfl
def aeo(fu:Nat)(a0:Str):Option Str:=
 (((akj fu a0 fu a0 (0:Int))).bind fun(a1:Str)=>some a1)
def apq(fu:Nat)(a1:UInt8)(a2:Int->Option (Unit⊕Str))(a0:Int):Option (Unit⊕Str):=
 (if a0<(15:Int)then(gd (0<=a0/\a0<(([([98,82,101,102,101,114,114,101,100,45,66,121]:Str),([99,67,111,110,116,101,110,116,45,84,121,112,101]:Str),([101,67,111,110,116,101,110,116,45,69,110,99,111,100,105,110,103]:Str),([102,70,114,111,109]:Str),([105,67,97,108,108,45,73,68]:Str),([107,83,117,112,112,111,114,116,101,100]:Str),([108,67,111,110,116,101,110,116,45,76,101,110,103,116,104]:Str),([109,67,111,110,116,97,99,116]:Str),([111,69,118,101,110,116]:Str),([114,82,101,102,101,114,45,84,111]:Str),([115,83,117,98,106,101,99,116]:Str),([116,84,111]:Str),([117,65,108,108,111,119,45,69,118,101,110,116,115]:Str),([118,86,105,97]:Str),([120,83,101,115,115,105,111,110,45,69,120,112,105,114,101,115]:Str)]:List Str).length:Int))<|(gd (0<=a0/\a0<(([([98,82,101,102,101,114,114,101,100,45,66,121]:Str),([99,67,111,110,116,101,110,116,45,84,121,112,101]:Str),([101,67,111,110,116,101,110,116,45,69,110,99,111,100,105,110,103]:Str),([102,70,114,111,109]:Str),([105,67,97,108,108,45,73,68]:Str),([107,83,117,112,112,111,114,116,101,100]:Str),([108,67,111,110,116,101,110,116,45,76,101,110,103,116,104]:Str),([109,67,111,110,116,97,99,116]:Str),([111,69,118,101,110,116]:Str),([114,82,101,102,101,114,45,84,111]:Str),([115,83,117,98,106,101,99,116]:Str),([116,84,111]:Str),([117,65,108,108,111,119,45,69,118,101,110,116,115]:Str),([118,86,105,97]:Str),([120,83,101,115,115,105,111,110,45,69,120,112,105,114,101,115]:Str)]:List Str).length:Int))<|(gd (0<=(0:Int)/\(0:Int)<((el ([([98,82,101,102,101,114,114,101,100,45,66,121]:Str),([99,67,111,110,116,101,110,116,45,84,121,112,101]:Str),([101,67,111,110,116,101,110,116,45,69,110,99,111,100,105,110,103]:Str),([102,70,114,111,109]:Str),([105,67,97,108,108,45,73,68]:Str),([107,83,117,112,112,111,114,116,101,100]:Str),([108,67,111,110,116,101,110,116,45,76,101,110,103,116,104]:Str),([109,67,111,110,116,97,99,116]:Str),([111,69,118,101,110,116]:Str),([114,82,101,102,101,114,45,84,111]:Str),([115,83,117,98,106,101,99,116]:Str),([116,84,111]:Str),([117,65,108,108,111,119,45,69,118,101,110,116,115]:Str),([118,86,105,97]:Str),([120,83,101,115,115,105,111,110,45,69,120,112,105,114,101,115]:Str)]:List Str) a0).length:Int))<|(if(at_ (el ([([98,82,101,102,101,114,114,101,100,45,66,121]:Str),([99,67,111,110,116,101,110,116,45,84,121,112,101]:Str),([101,67,111,110,116,101,110,116,45,69,110,99,111,100,105,110,103]:Str),([102,70,114,111,109]:Str),([105,67,97,108,108,45,73,68]:Str),([107,83,117,112,112,111,114,116,101,100]:Str),([108,67,111,110,116,101,110,116,45,76,101,110,103,116,104]:Str),([109,67,111,110,116,97,99,116]:Str),([111,69,118,101,110,116]:Str),([114,82,101,102,101,114,45,84,111]:Str),([115,83,117,98,106,101,99,116]:Str),([116,84,111]:Str),([117,65,108,108,111,119,45,69,118,101,110,116,115]:Str),([118,86,105,97]:Str),([120,83,101,115,115,105,111,110,45,69,120,112,105,114,101,115]:Str)]:List Str) a0) (0:Int))=a1 then(gd (0<=a0/\a0<(([([98,82,101,102,101,114,114,101,100,45,66,121]:Str),([99,67,111,110,116,101,110,116,45,84,121,112,101]:Str),([101,67,111,110,116,101,110,116,45,69,110,99,111,100,105,110,103]:Str),([102,70,114,111,109]:Str),([105,67,97,108,108,45,73,68]:Str),([107,83,117,112,112,111,114,116,101,100]:Str),([108,67,111,110,116,101,110,116,45,76,101,110,103,116,104]:Str),([109,67,111,110,116,97,99,116]:Str),([111,69,118,101,110,116]:Str),([114,82,101,102,101,114,45,84,111]:Str),([115,83,117,98,106,101,99,116]:Str),([116,84,111]:Str),([117,65,108,108,111,119,45,69,118,101,110,116,115]:Str),([118,86,105,97]:Str),([120,83,101,115,115,105,111,110,45,69,120,112,105,114,101,115]:Str)]:List Str).length:Int))<|(gd (0<=a0/\a0<(([([98,82,101,102,101,114,114,101,100,45,66,121]:Str),([99,67,111,110,116,101,110,116,45,84,121,112,101]:Str),([101,67,111,110,116,101,110,116,45,69,110,99,111,100,105,110,103]:Str),([102,70,114,111,109]:Str),([105,67,97,108,108,45,73,68]:Str),([107,83,117,112,112,111,114,116,101,100]:Str),([108,67,111,110,116,101,110,116,45,76,101,110,103,116,104]:Str),([109,67,111,110,116,97,99,116]:Str),([111,69,118,101,110,116]:Str),([114,82,101,102,101,114,45,84,111]:Str),([115,83,117,98,106,101,99,116]:Str),([116,84,111]:Str),([117,65,108,108,111,119,45,69,118,101,110,116,115]:Str),([118,86,105,97]:Str),([120,83,101,115,115,105,111,110,45,69,120,112,105,114,101,115]:Str)]:List Str).length:Int))<|(gd (0<=(1:Int)/\(1:Int)<=((el ([([98,82,101,102,101,114,114,101,100,45,66,121]:Str),([99,67,111,110,116,101,110,116,45,84,121,112,101]:Str),([101,67,111,110,116,101,110,116,45,69,110,99,111,100,105,110,103]:Str),([102,70,114,111,109]:Str),([105,67,97,108,108,45,73,68]:Str),([107,83,117,112,112,111,114,116,101,100]:Str),([108,67,111,110,116,101,110,116,45,76,101,110,103,116,104]:Str),([109,67,111,110,116,97,99,116]:Str),([111,69,118,101,110,116]:Str),([114,82,101,102,101,114,45,84,111]:Str),([115,83,117,98,106,101,99,116]:Str),([116,84,111]:Str),([117,65,108,108,111,119,45,69,118,101,110,116,115]:Str),([118,86,105,97]:Str),([120,83,101,115,115,105,111,110,45,69,120,112,105,114,101,115]:Str)]:List Str) a0).length:Int))<|some (.inr (zak (zaf (1:Int)) (el ([([98,82,101,102,101,114,114,101,100,45,66,121]:Str),([99,67,111,110,116,101,110,116,45,84,121,112,101]:Str),([101,67,111,110,116,101,110,116,45,69,110,99,111,100,105,110,103]:Str),([102,70,114,111,109]:Str),([105,67,97,108,108,45,73,68]:Str),([107,83,117,112,112,111,114,116,101,100]:Str),([108,67,111,110,116,101,110,116,45,76,101,110,103,116,104]:Str),([109,67,111,110,116,97,99,116]:Str),([111,69,118,101,110,116]:Str),([114,82,101,102,101,114,45,84,111]:Str),([115,83,117,98,106,101,99,116]:Str),([116,84,111]:Str),([117,65,108,108,111,119,45,69,118,101,110,116,115]:Str),([118,86,105,97]:Str),([120,83,101,115,115,105,111,110,45,69,120,112,105,114,101,115]:Str)]:List Str) a0))))))else(gd (acd (a0+(1:Int)))<|(a2 (a0+(1:Int))))))))else some (.inl ()))
def ani(fu:Nat)(a1:UInt8):Nat->Int->Option (Unit⊕Str):=fun k_ a0=>loopF (fun(g:Int->Option (Unit⊕Str)) v=>apq fu a1 (fun a0=>g a0) v) k_ a0
theorem L_ref03_short_lp0_s{fu:Nat}{a0:UInt8}{k_:Nat}{a1:Int}:ani fu a0 (k_+1) a1=apq fu a0 (ani fu a0 k_) a1:=rfl
def apr(fu:Nat)(a0:UInt8):Option Str:=
 (((ani fu a0 fu (0:Int))).bind fun(a1:(Unit⊕Str))=>zaE (fun(a2:Unit)=>some ([]:Str)) (fun q=>some q) a1)
def apt(fu:Nat)(a1:Str)(a2:Int->Option (Unit⊕(Str×UInt8)))(a0:Int):Option (Unit⊕(Str×UInt8)):=
 (if a0<(7:Int)then(gd (0<=a0/\a0<(([([67,97,108,108,45,73,68]:Str),([67,83,101,113]:Str),([77,73,77,69,45,86,101,114,115,105,111,110]:Str),([77,105,110,45,83,69]:Str),([82,65,99,107]:Str),([82,83,101,113]:Str),([87,87,87,45,65,117,116,104,101,110,116,105,99,97,116,101]:Str)]:List Str).length:Int))<|(gd (0<=a0/\a0<(([([67,97,108,108,45,73,68]:Str),([67,83,101,113]:Str),([77,73,77,69,45,86,101,114,115,105,111,110]:Str),([77,105,110,45,83,69]:Str),([82,65,99,107]:Str),([82,83,101,113]:Str),([87,87,87,45,65,117,116,104,101,110,116,105,99,97,116,101]:Str)]:List Str).length:Int))<|((aeo fu (el ([([67,97,108,108,45,73,68]:Str),([67,83,101,113]:Str),([77,73,77,69,45,86,101,114,115,105,111,110]:Str),([77,105,110,45,83,69]:Str),([82,65,99,107]:Str),([82,83,101,113]:Str),([87,87,87,45,65,117,116,104,101,110,116,105,99,97,116,101]:Str)]:List Str) a0)).bind fun(a3:Str)=>(if a3=a1 then(gd (0<=a0/\a0<(([([67,97,108,108,45,73,68]:Str),([67,83,101,113]:Str),([77,73,77,69,45,86,101,114,115,105,111,110]:Str),([77,105,110,45,83,69]:Str),([82,65,99,107]:Str),([82,83,101,113]:Str),([87,87,87,45,65,117,116,104,101,110,116,105,99,97,116,101]:Str)]:List Str).length:Int))<|(gd (0<=a0/\a0<(([([67,97,108,108,45,73,68]:Str),([67,83,101,113]:Str),([77,73,77,69,45,86,101,114,115,105,111,110]:Str),([77,105,110,45,83,69]:Str),([82,65,99,107]:Str),([82,83,101,113]:Str),([87,87,87,45,65,117,116,104,101,110,116,105,99,97,116,101]:Str)]:List Str).length:Int))<|some (.inr (el ([([67,97,108,108,45,73,68]:Str),([67,83,101,113]:Str),([77,73,77,69,45,86,101,114,115,105,111,110]:Str),([77,105,110,45,83,69]:Str),([82,65,99,107]:Str),([82,83,101,113]:Str),([87,87,87,45,65,117,116,104,101,110,116,105,99,97,116,101]:Str)]:List Str) a0,(0:UInt8)))))else(gd (acd (a0+(1:Int)))<|(a2 (a0+(1:Int))))))))else some (.inl ()))
def akg(fu:Nat)(a1:Str):Nat->Int->Option (Unit⊕(Str×UInt8)):=fun k_ a0=>loopF (fun(g:Int->Option (Unit⊕(Str×UInt8))) v=>apt fu a1 (fun a0=>g a0) v) k_ a0
theorem L_ref03_Canon_lp0_s{fu:Nat}{a0:Str}{k_:Nat}{a1:Int}:akg fu a0 (k_+1) a1=apt fu a0 (akg fu a0 k_) a1:=rfl
def air(fu:Nat)(a3:Str)(a2:Str->Int->Option Str)(a1:Str)(a0:Int):Option Str:=
 (if a0<(a3.length:Int)then(((if a0=(0:Int)then(gd (0<=a0/\a0<(a1.length:Int))<|(gd (0<=a0/\a0<(a1.length:Int))<|(if(97:UInt8)<=(at_ a1 a0)then(gd (0<=a0/\a0<(a1.length:Int))<|(gd (0<=a0/\a0<(a1.length:Int))<|some (decide ((at_ a1 a0)<=(122:UInt8)))))else some false)))else(gd (acd (a0-(1:Int)))<|(gd (0<=(a0-(1:Int))/\(a0-(1:Int))<(a1.length:Int))<|(gd (0<=(a0-(1:Int))/\(a0-(1:Int))<(a1.length:Int))<|(if(at_ a1 (a0-(1:Int)))=(45:UInt8)then(gd (0<=a0/\a0<(a1.length:Int))<|(gd (0<=a0/\a0<(a1.length:Int))<|(if(97:UInt8)<=(at_ a1 a0)then(gd (0<=a0/\a0<(a1.length:Int))<|(gd (0<=a0/\a0<(a1.length:Int))<|some (decide ((at_ a1 a0)<=(122:UInt8)))))else some false)))else some false)))))).bind fun(a4:Bool)=>(bif a4 then(gd (0<=a0/\a0<(a1.length:Int))<|(gd (0<=a0/\a0<(a1.length:Int))<|(gd (0<=a0/\a0<(a1.length:Int))<|(gd (0<=a0/\a0<(a1.length:Int))<|(gd (acd (a0+(1:Int)))<|(a2 (zbd a1 (zaf a0) ((at_ a1 a0)-(32:UInt8))) (a0+(1:Int))))))))else(gd (acd (a0+(1:Int)))<|(a2 a1 (a0+(1:Int))))))else some a1)
def afg(fu:Nat)(a2:Str):Nat->Str->Int->Option Str:=fun k_ a0 a1=>loopF (fun(g:(Str×Int)->Option Str) v=>air fu a2 (fun a0 a1=>g (a0,a1)) v.1 v.2) k_ (a0,a1)
theorem aon{fu:Nat}{a0:Str}{k_:Nat}{a1:Str}{a2:Int}:afg fu a0 (k_+1) a1 a2=air fu a0 (afg fu a0 k_) a1 a2:=rfl
def alg(fu:Nat)(a1:Str):Option (Str×UInt8):=
 ((((apz fu a1).bind fun(a2:Bool)=>(bif (!a2)then some true else some (decide ((64:Int)<(a1.length:Int)))))).bind fun(a3:Bool)=>(bif a3 then some (([]:Str),(5:UInt8))else((aeo fu a1).bind fun(a0:Str)=>(((if(a1.length:Int)=(1:Int)then(gd (0<=(0:Int)/\(0:Int)<(a0.length:Int))<|((apr fu (at_ a0 (0:Int))).bind fun(a4:Str)=>some (!decide (a4=([]:Str)))))else some false)).bind fun(a5:Bool)=>(bif a5 then(gd (0<=(0:Int)/\(0:Int)<(a0.length:Int))<|((apr fu (at_ a0 (0:Int))).bind fun(a6:Str)=>some (a6,(0:UInt8))))else(((akg fu a0 fu (0:Int))).bind fun(a7:(Unit⊕(Str×UInt8)))=>zaE (fun(a9:Unit)=>(((afg fu a0 fu a0 (0:Int))).bind fun(a8:Str)=>some (a8,(0:UInt8)))) (fun q=>some q) a7))))))
def asb(fu:Nat)(a0:Str)(a1:Str):Option Bool:=
 ((alg fu a0).bind fun(y1:(Str×UInt8))=>((alg fu a1).bind fun(y6:(Str×UInt8))=>(((if y1.2=(0:UInt8)then(if y6.2=(0:UInt8)then some (decide (y1.1=y6.1))else some false)else some false)).bind fun(a2:Bool)=>some a2)))
def aiq(fu:Nat)(a2:Str)(a1:List Str)(a3:Int->Option (Unit⊕Bool))(a0:Int):Option (Unit⊕Bool):=
 (if a0<(a1.length:Int)then(gd (0<=a0/\a0<(a1.length:Int))<|(gd (0<=a0/\a0<(a1.length:Int))<|(if(el a1 a0)=a2 then some (.inr true)else(gd (acd (a0+(1:Int)))<|(a3 (a0+(1:Int)))))))else some (.inl ()))
def akd(fu:Nat)(a1:Str)(a2:List Str):Nat->Int->Option (Unit⊕Bool):=fun k_ a0=>loopF (fun(g:Int->Option (Unit⊕Bool)) v=>aiq fu a1 a2 (fun a0=>g a0) v) k_ a0
theorem aom{fu:Nat}{a0:Str}{a1:List Str}{k_:Nat}{a2:Int}:akd fu a0 a1 (k_+1) a2=aiq fu a0 a1 (akd fu a0 a1 k_) a2:=rfl
def ael(fu:Nat)(a0:Str)(a1:List Str):Option Bool:=
 (((akd fu a0 a1 fu (0:Int))).bind fun(a2:(Unit⊕Bool))=>zaE (fun(a3:Unit)=>some false) (fun q=>some q) a2)
def aoy(fu:Nat)(a0:Str):Option Int:=
 ((ael fu a0 ([([70,114,111,109]:Str),([84,111]:Str),([67,111,110,116,97,99,116]:Str),([82,111,117,116,101]:Str),([82,101,99,111,114,100,45,82,111,117,116,101]:Str),([80,97,116,104]:Str),([83,101,114,118,105,99,101,45,82,111,117,116,101]:Str),([82,101,102,101,114,45,84,111]:Str),([82,101,102,101,114,114,101,100,45,66,121]:Str),([82,101,112,108,121,45,84,111]:Str)]:List Str)).bind fun(y4:Bool)=>(bif y4 then some (1:Int)else(if a0=([86,105,97]:Str)then some (2:Int)else(if a0=([67,83,101,113]:Str)then some (3:Int)else(if a0=([82,65,99,107]:Str)then some (4:Int)else((ael fu a0 ([([67,111,110,116,101,110,116,45,76,101,110,103,116,104]:Str),([69,120,112,105,114,101,115]:Str),([77,97,120,45,70,111,114,119,97,114,100,115]:Str),([77,105,110,45,69,120,112,105,114,101,115]:Str),([82,83,101,113]:Str)]:List Str)).bind fun(a1:Bool)=>(bif a1 then some (5:Int)else((ael fu a0 ([([67,111,110,116,101,110,116,45,68,105,115,112,111,115,105,116,105,111,110]:Str),([67,111,110,116,101,110,116,45,84,121,112,101]:Str),([69,118,101,110,116]:Str),([77,105,110,45,83,69]:Str),([83,101,115,115,105,111,110,45,69,120,112,105,114,101,115]:Str),([83,117,98,115,99,114,105,112,116,105,111,110,45,83,116,97,116,101]:Str)]:List Str)).bind fun(a2:Bool)=>(bif a2 then some (6:Int)else((ael fu a0 ([([65,99,99,101,112,116]:Str),([65,108,108,111,119]:Str),([65,108,108,111,119,45,69,118,101,110,116,115]:Str),([80,114,111,120,121,45,82,101,113,117,105,114,101]:Str),([82,101,113,117,105,114,101]:Str),([83,117,112,112,111,114,116,101,100]:Str),([85,110,115,117,112,112,111,114,116,101,100]:Str)]:List Str)).bind fun(a3:Bool)=>(bif a3 then some (7:Int)else some (0:Int))))))))))))
def arh(fu:Nat)(a0:Str):Option Bool:=
 ((alg fu a0).bind fun(y1:(Str×UInt8))=>(((if y1.2=(0:UInt8)then((aoy fu y1.1).bind fun(a1:Int)=>(if a1=(7:Int)then some true else((ael fu y1.1 ([([67,111,110,116,97,99,116]:Str),([80,97,116,104]:Str),([82,101,99,111,114,100,45,82,111,117,116,101]:Str),([82,111,117,116,101]:Str),([83,101,114,118,105,99,101,45,82,111,117,116,101]:Str),([86,105,97]:Str)]:List Str)).bind fun(a2:Bool)=>some a2)))else some false)).bind fun(a3:Bool)=>some a3))
def ahc(fu:Nat)(a0:UInt8):Option Bool:=
 (((if a0=(32:UInt8)then some true else some (decide (a0=(9:UInt8))))).bind fun(v5:Bool)=>some v5)
def afi(fu:Nat)(a1:Str)(a2:Int->Option Int)(a0:Int):Option Int:=
 (((if a0<(a1.length:Int)then(gd (0<=a0/\a0<(a1.length:Int))<|((ahc fu (at_ a1 a0)).bind fun(a3:Bool)=>some a3))else some false)).bind fun(a4:Bool)=>(bif a4 then(gd (acd (a0+(1:Int)))<|(a2 (a0+(1:Int))))else some a0))
def aiw(fu:Nat)(a1:Str):Nat->Int->Option Int:=fun k_ a0=>loopF (fun(g:Int->Option Int) v=>afi fu a1 (fun a0=>g a0) v) k_ a0
theorem ajp{fu:Nat}{a0:Str}{k_:Nat}{a1:Int}:aiw fu a0 (k_+1) a1=afi fu a0 (aiw fu a0 k_) a1:=rfl
def adj(fu:Nat)(a0:Str)(a1:Int):Option Int:=
 (((aiw fu a0 fu (min (max a1 (0:Int)) (a0.length:Int)))).bind fun(a2:Int)=>some a2)
def akm(fu:Nat)(a1:Str)(y1:Int)(a2:Int->Option Int)(a0:Int):Option Int:=
 (((if(0:Int)<a0 then(gd (acd (a0-(1:Int)))<|(gd (0<=(a0-(1:Int))/\(a0-(1:Int))<((zak (zaf y1) a1).length:Int))<|((ahc fu (at_ (zak (zaf y1) a1) (a0-(1:Int)))).bind fun(a3:Bool)=>some a3)))else some false)).bind fun(a4:Bool)=>(bif a4 then(gd (acd (a0-(1:Int)))<|(a2 (a0-(1:Int))))else some a0))
def alw(fu:Nat)(a1:Str)(y1:Int):Nat->Int->Option Int:=fun k_ a0=>loopF (fun(g:Int->Option Int) v=>akm fu a1 y1 (fun a0=>g a0) v) k_ a0
theorem apy{fu:Nat}{a0:Str}{y1:Int}{k_:Nat}{a1:Int}:alw fu a0 y1 (k_+1) a1=akm fu a0 y1 (alw fu a0 y1 k_) a1:=rfl
def apc(fu:Nat)(a0:Str):Option Str:=
 ((adj fu a0 (0:Int)).bind fun(y1:Int)=>(gd (0<=y1/\y1<=(a0.length:Int))<|(((alw fu a0 y1 fu ((zak (zaf y1) a0).length:Int))).bind fun(a1:Int)=>(gd (0<=a1/\a1<=((zak (zaf y1) a0).length:Int))<|some (zaS (zaf a1) (zak (zaf y1) a0))))))
def ank(fu:Nat)(a2:Str)(a0:Int)(a1:Int):Option (Int×Str):=
 (gd (0<=a0/\a0<=a1/\a1<=(a2.length:Int))<|((adj fu (sub a2 a0 a1) (0:Int)).bind fun(y5:Int)=>(gd (acd (a0+y5))<|((apc fu (sub a2 a0 a1)).bind fun(a3:Str)=>some (a0+y5,a3)))))
def arw(fu:Nat)(a1:Str)(a0:Int)(a2:UInt8):Option (Int×UInt8):=
 (((if a0<(0:Int)then some true else some (decide ((a1.length:Int)<a0)))).bind fun(v5:Bool)=>(bif v5 then some ((0:Int),(2:UInt8))else(((if a0=(a1.length:Int)then some true else(gd (0<=a0/\a0<(a1.length:Int))<|some (!decide ((at_ a1 a0)=a2))))).bind fun(a3:Bool)=>(bif a3 then some (a0,(5:UInt8))else some ((0:Int),(0:UInt8))))))
def amx(fu:Nat)(a0:UInt8):Option Bool:=
 (((if a0<(32:UInt8)then(if a0=(9:UInt8)then some (decide (a0=(127:UInt8)))else some true)else some (decide (a0=(127:UInt8))))).bind fun(v6:Bool)=>some v6)
def arj(fu:Nat)(a1:Str)(a0:Int):Option (Int×Int×UInt8):=
 (if(a1.length:Int)<=a0 then some ((0:Int),(a1.length:Int),(6:UInt8))else(gd (0<=a0/\a0<(a1.length:Int))<|((amx fu (at_ a1 a0)).bind fun(y3:Bool)=>(bif y3 then some ((0:Int),a0,(5:UInt8))else(gd (0<=a0/\a0<(a1.length:Int))<|(if(at_ a1 a0)=(92:UInt8)then(gd (acd (a0+(1:Int)))<|(if(a1.length:Int)<=(a0+(1:Int))then some ((0:Int),(a1.length:Int),(6:UInt8))else(((gd (acd (a0+(1:Int)))<|(gd (0<=(a0+(1:Int))/\(a0+(1:Int))<(a1.length:Int))<|(if(at_ a1 (a0+(1:Int)))<(32:UInt8)then some true else(gd (acd (a0+(1:Int)))<|(gd (0<=(a0+(1:Int))/\(a0+(1:Int))<(a1.length:Int))<|some (decide ((126:UInt8)<(at_ a1 (a0+(1:Int))))))))))).bind fun(a2:Bool)=>(bif a2 then some ((0:Int),a0,(5:UInt8))else some ((2:Int),(0:Int),(0:UInt8))))))else some ((1:Int),(0:Int),(0:UInt8))))))))
def abj(fu:Nat)(a2:Str)(a4:(List UInt8)->Int->Option (Str×Int×UInt8))(a3:List UInt8)(a0:Int):Option (Str×Int×UInt8):=
 ((arj fu a2 a0).bind fun(a1:(Int×Int×UInt8))=>(if a1.2.2=(0:UInt8)then(((if a1.1=(1:Int)then(gd (0<=a0/\a0<(a2.length:Int))<|some (decide ((at_ a2 a0)=(34:UInt8))))else some false)).bind fun(a5:Bool)=>(bif a5 then(gd (acd (a0+(1:Int)))<|some (a3,a0+(1:Int),(0:UInt8)))else(gd (acd (a0+a1.1))<|(gd (acd ((a0+a1.1)-(1:Int)))<|(gd (0<=((a0+a1.1)-(1:Int))/\((a0+a1.1)-(1:Int))<(a2.length:Int))<|(gd ((a3.length+([at_ a2 ((a0+a1.1)-(1:Int))]:List UInt8).length)*1<=140737488355328)<|(gd (acd (a0+a1.1))<|(a4 (a3++([at_ a2 ((a0+a1.1)-(1:Int))]:List UInt8)) (a0+a1.1)))))))))else some (([]:Str),a1.2.1,a1.2.2)))
def ahy(fu:Nat)(a2:Str):Nat->(List UInt8)->Int->Option (Str×Int×UInt8):=fun k_ a0 a1=>loopF (fun(g:((List UInt8)×Int)->Option (Str×Int×UInt8)) v=>abj fu a2 (fun a0 a1=>g (a0,a1)) v.1 v.2) k_ (a0,a1)
theorem aby{fu:Nat}{a0:Str}{k_:Nat}{a1:List UInt8}{a2:Int}:ahy fu a0 (k_+1) a1 a2=abj fu a0 (ahy fu a0 k_) a1 a2:=rfl
def akl(fu:Nat)(a1:Str)(a0:Int):Option (Str×Int×UInt8):=
 ((arw fu a1 a0 (34:UInt8)).bind fun(y1:(Int×UInt8))=>(if y1.2=(0:UInt8)then(gd (acd (a0+(1:Int)))<|(ahy fu a1 fu ([]:List UInt8) (a0+(1:Int))))else some (([]:Str),y1.1,y1.2)))
def agf(fu:Nat)(a1:Str)(a2:Int->Option Int)(a0:Int):Option Int:=
 (((if a0<(a1.length:Int)then(gd (0<=a0/\a0<(a1.length:Int))<|some (!decide ((at_ a1 a0)=(62:UInt8))))else some false)).bind fun(a3:Bool)=>(bif a3 then(gd (acd (a0+(1:Int)))<|(a2 (a0+(1:Int))))else some a0))
def ako(fu:Nat)(a1:Str):Nat->Int->Option Int:=fun k_ a0=>loopF (fun(g:Int->Option Int) v=>agf fu a1 (fun a0=>g a0) v) k_ a0
theorem alj{fu:Nat}{a0:Str}{k_:Nat}{a1:Int}:ako fu a0 (k_+1) a1=agf fu a0 (ako fu a0 k_) a1:=rfl
def agh(fu:Nat)(a1:Str)(a8:UInt8)(a4:(List (Int×Str))->Int->Int->Option (((List (Int×Str))×Int)⊕((List (Int×Str))×Int×UInt8)))(a2:List (Int×Str))(a3:Int)(a0:Int):Option (((List (Int×Str))×Int)⊕((List (Int×Str))×Int×UInt8)):=
 (if a0<(a1.length:Int)then(gd (0<=a0/\a0<(a1.length:Int))<|(if(at_ a1 a0)=a8 then((ank fu a1 a3 a0).bind fun(a7:(Int×Str))=>(gd ((a2.length+([a7]:List (Int×Str)).length)*24<=140737488355328)<|(gd (acd (a0+(1:Int)))<|(gd (acd (a0+(1:Int)))<|(a4 (a2++([a7]:List (Int×Str))) (a0+(1:Int)) (a0+(1:Int)))))))else(if(at_ a1 a0)=(34:UInt8)then((akl fu a1 a0).bind fun(a5:(Str×Int×UInt8))=>(if a5.2.2=(0:UInt8)then(a4 a2 a3 a5.2.1)else some (.inr (([]:List (Int×Str)),a5.2.1,a5.2.2))))else(if(at_ a1 a0)=(62:UInt8)then some (.inr (([]:List (Int×Str)),a0,(5:UInt8)))else(if(at_ a1 a0)=(60:UInt8)then(((ako fu a1 fu a0)).bind fun(a6:Int)=>(if a6=(a1.length:Int)then some (.inr (([]:List (Int×Str)),(a1.length:Int),(6:UInt8)))else(gd (acd (a6+(1:Int)))<|(a4 a2 a3 (a6+(1:Int))))))else(gd (acd (a0+(1:Int)))<|(a4 a2 a3 (a0+(1:Int)))))))))else some (.inl (a2,a3)))
def ahl(fu:Nat)(a3:Str)(a4:UInt8):Nat->(List (Int×Str))->Int->Int->Option (((List (Int×Str))×Int)⊕((List (Int×Str))×Int×UInt8)):=fun k_ a0 a1 a2=>loopF (fun(g:((List (Int×Str))×Int×Int)->Option (((List (Int×Str))×Int)⊕((List (Int×Str))×Int×UInt8))) v=>agh fu a3 a4 (fun a0 a1 a2=>g (a0,a1,a2)) v.1 v.2.1 v.2.2) k_ (a0,a1,a2)
theorem alk{fu:Nat}{a0:Str}{a1:UInt8}{k_:Nat}{a2:List (Int×Str)}{a3:Int}{a4:Int}:ahl fu a0 a1 (k_+1) a2 a3 a4=agh fu a0 a1 (ahl fu a0 a1 k_) a2 a3 a4:=rfl
def aqa(fu:Nat)(a1:Str)(a0:UInt8):Option ((List (Int×Str))×Int×UInt8):=
 ((((ahc fu a0).bind fun(a4:Bool)=>(bif a4 then some true else(if a0=(34:UInt8)then some true else(if a0=(60:UInt8)then some true else some (decide (a0=(62:UInt8)))))))).bind fun(a5:Bool)=>(bif a5 then some (([]:List (Int×Str)),(0:Int),(2:UInt8))else(((ahl fu a1 a0 fu ([]:List (Int×Str)) (0:Int) (0:Int))).bind fun(a6:(((List (Int×Str))×Int)⊕((List (Int×Str))×Int×UInt8)))=>zaE (fun(a2:((List (Int×Str))×Int))=>((ank fu a1 a2.2 (a1.length:Int)).bind fun(a3:(Int×Str))=>(gd ((a2.1.length+([a3]:List (Int×Str)).length)*24<=140737488355328)<|some (a2.1++([a3]:List (Int×Str)),(0:Int),(0:UInt8))))) (fun q=>some q) a6)))
def akf(fu:Nat)(y1:((List (Int×Str))×Int×UInt8))(a2:(List Str)->Int->Option ((List Str)⊕((List Str)×UInt8)))(a1:List Str)(a0:Int):Option ((List Str)⊕((List Str)×UInt8)):=
 (if a0<(y1.1.length:Int)then(gd (0<=a0/\a0<(y1.1.length:Int))<|(gd (0<=a0/\a0<(y1.1.length:Int))<|(if((el y1.1 a0).2)=([]:Str)then some (.inr (([]:List Str),(5:UInt8)))else(gd (0<=a0/\a0<(y1.1.length:Int))<|(gd (0<=a0/\a0<(y1.1.length:Int))<|(gd ((a1.length+([(el y1.1 a0).2]:List Str).length)*16<=140737488355328)<|(gd (acd (a0+(1:Int)))<|(a2 (a1++([(el y1.1 a0).2]:List Str)) (a0+(1:Int))))))))))else some (.inl a1))
def aim(fu:Nat)(y1:((List (Int×Str))×Int×UInt8)):Nat->(List Str)->Int->Option ((List Str)⊕((List Str)×UInt8)):=fun k_ a0 a1=>loopF (fun(g:((List Str)×Int)->Option ((List Str)⊕((List Str)×UInt8))) v=>akf fu y1 (fun a0 a1=>g (a0,a1)) v.1 v.2) k_ (a0,a1)
theorem aps{fu:Nat}{y1:((List (Int×Str))×Int×UInt8)}{k_:Nat}{a0:List Str}{a1:Int}:aim fu y1 (k_+1) a0 a1=akf fu y1 (aim fu y1 k_) a0 a1:=rfl
def ari(fu:Nat)(a0:Str):Option ((List Str)×UInt8):=
 ((aqa fu a0 (44:UInt8)).bind fun(y1:((List (Int×Str))×Int×UInt8))=>(if y1.2.2=(0:UInt8)then(((aim fu y1 fu ([]:List Str) (0:Int))).bind fun(a1:((List Str)⊕((List Str)×UInt8)))=>zaE (fun(a2:List Str)=>some (a2,(0:UInt8))) (fun q=>some q) a1)else some (([]:List Str),y1.2.2)))
def aij(fu:Nat)(a0:(Str×Str)):Option (List Str):=
 ((arh fu a0.1).bind fun(y4:Bool)=>(bif y4 then((ari fu a0.2).bind fun(a1:((List Str)×UInt8))=>(if a1.2=(0:UInt8)then some a1.1 else some ([a0.2]:List Str)))else some ([a0.2]:List Str)))
def als(fu:Nat)(m_0:(Str×Str×Int×Str×(List (Str×Str))×(List UInt8)))(a4:Str)(a2:(List Str)->Int->Option (List Str))(a1:List Str)(a0:Int):Option (List Str):=
 (if a0<(m_0.2.2.2.2.1.length:Int)then(gd (0<=a0/\a0<(m_0.2.2.2.2.1.length:Int))<|(gd (0<=a0/\a0<(m_0.2.2.2.2.1.length:Int))<|((asb fu ((el m_0.2.2.2.2.1 a0).1) a4).bind fun(a5:Bool)=>(bif a5 then(gd (0<=a0/\a0<(m_0.2.2.2.2.1.length:Int))<|(gd (0<=a0/\a0<(m_0.2.2.2.2.1.length:Int))<|((aij fu (el m_0.2.2.2.2.1 a0)).bind fun(a3:List Str)=>(gd ((a1.length+a3.length)*16<=140737488355328)<|(gd (acd (a0+(1:Int)))<|(a2 (a1++a3) (a0+(1:Int))))))))else(gd (acd (a0+(1:Int)))<|(a2 a1 (a0+(1:Int))))))))else some a1)
def akb(fu:Nat)(m_0:(Str×Str×Int×Str×(List (Str×Str))×(List UInt8)))(a2:Str):Nat->(List Str)->Int->Option (List Str):=fun k_ a0 a1=>loopF (fun(g:((List Str)×Int)->Option (List Str)) v=>als fu m_0 a2 (fun a0 a1=>g (a0,a1)) v.1 v.2) k_ (a0,a1)
theorem aqq{fu:Nat}{m_0:(Str×Str×Int×Str×(List (Str×Str))×(List UInt8))}{a0:Str}{k_:Nat}{a1:List Str}{a2:Int}:akb fu m_0 a0 (k_+1) a1 a2=als fu m_0 a0 (akb fu m_0 a0 k_) a1 a2:=rfl
def aqr(fu:Nat)(m_0:(Str×Str×Int×Str×(List (Str×Str))×(List UInt8)))(a0:Str):Option (List Str):=
 (((akb fu m_0 a0 fu ([]:List Str) (0:Int))).bind fun(a1:List Str)=>some a1)
def aip(fu:Nat)(a3:Str)(a2:Str->Int->Option Str)(a1:Str)(a0:Int):Option Str:=
 (if a0<(a3.length:Int)then(((gd (0<=a0/\a0<(a1.length:Int))<|(gd (0<=a0/\a0<(a1.length:Int))<|(if(97:UInt8)<=(at_ a1 a0)then(gd (0<=a0/\a0<(a1.length:Int))<|(gd (0<=a0/\a0<(a1.length:Int))<|some (decide ((at_ a1 a0)<=(122:UInt8)))))else some false)))).bind fun(a4:Bool)=>(bif a4 then(gd (0<=a0/\a0<(a1.length:Int))<|(gd (0<=a0/\a0<(a1.length:Int))<|(gd (0<=a0/\a0<(a1.length:Int))<|(gd (0<=a0/\a0<(a1.length:Int))<|(gd (acd (a0+(1:Int)))<|(a2 (zbd a1 (zaf a0) ((at_ a1 a0)-(32:UInt8))) (a0+(1:Int))))))))else(gd (acd (a0+(1:Int)))<|(a2 a1 (a0+(1:Int))))))else some a1)
def akc(fu:Nat)(a2:Str):Nat->Str->Int->Option Str:=fun k_ a0 a1=>loopF (fun(g:(Str×Int)->Option Str) v=>aip fu a2 (fun a0 a1=>g (a0,a1)) v.1 v.2) k_ (a0,a1)
theorem aol{fu:Nat}{a0:Str}{k_:Nat}{a1:Str}{a2:Int}:akc fu a0 (k_+1) a1 a2=aip fu a0 (akc fu a0 k_) a1 a2:=rfl
def anh(fu:Nat)(a0:Str):Option Str:=
 (((akc fu a0 fu a0 (0:Int))).bind fun(a1:Str)=>some a1)
def ahu(fu:Nat)(a1:Str)(a5:UInt8)(a4:(List Str)->Int->Int->Option ((List Str)×Int))(a3:List Str)(a2:Int)(a0:Int):Option ((List Str)×Int):=
 (if a0<(a1.length:Int)then(gd (0<=a0/\a0<(a1.length:Int))<|(if(at_ a1 a0)=a5 then(gd (0<=a2/\a2<=a0/\a0<=(a1.length:Int))<|(gd ((a3.length+([sub a1 a2 a0]:List Str).length)*16<=140737488355328)<|(gd (acd (a0+(1:Int)))<|(gd (acd (a0+(1:Int)))<|(a4 (a3++([sub a1 a2 a0]:List Str)) (a0+(1:Int)) (a0+(1:Int)))))))else(gd (acd (a0+(1:Int)))<|(a4 a3 a2 (a0+(1:Int))))))else some (a3,a2))
def agb(fu:Nat)(a3:Str)(a4:UInt8):Nat->(List Str)->Int->Int->Option ((List Str)×Int):=fun k_ a0 a1 a2=>loopF (fun(g:((List Str)×Int×Int)->Option ((List Str)×Int)) v=>ahu fu a3 a4 (fun a0 a1 a2=>g (a0,a1,a2)) v.1 v.2.1 v.2.2) k_ (a0,a1,a2)
theorem anu{fu:Nat}{a0:Str}{a1:UInt8}{k_:Nat}{a2:List Str}{a3:Int}{a4:Int}:agb fu a0 a1 (k_+1) a2 a3 a4=ahu fu a0 a1 (agb fu a0 a1 k_) a2 a3 a4:=rfl
def ame(fu:Nat)(a1:Str)(a2:UInt8):Option (List Str):=
 (((agb fu a1 a2 fu ([]:List Str) (0:Int) (0:Int))).bind fun(a0:((List Str)×Int))=>(gd (0<=a0.2/\a0.2<=(a1.length:Int))<|(gd ((a0.1.length+([zak (zaf a0.2) a1]:List Str).length)*16<=140737488355328)<|some (a0.1++([zak (zaf a0.2) a1]:List Str)))))
def ahb(fu:Nat)(a0:UInt8):Option Bool:=
 (((if(48:UInt8)<=a0 then some (decide (a0<=(57:UInt8)))else some false)).bind fun(v5:Bool)=>some v5)
def asi(fu:Nat)(a0:UInt8):Option Int:=
 ((ahb fu a0).bind fun(y1:Bool)=>(bif y1 then some ((a0-(48:UInt8)).toNat:Int)else(((if(65:UInt8)<=a0 then some (decide (a0<=(70:UInt8)))else some false)).bind fun(a1:Bool)=>(bif a1 then(gd (acd (((a0-(65:UInt8)).toNat:Int)+(10:Int)))<|some (((a0-(65:UInt8)).toNat:Int)+(10:Int)))else(((if(97:UInt8)<=a0 then some (decide (a0<=(102:UInt8)))else some false)).bind fun(a2:Bool)=>(bif a2 then(gd (acd (((a0-(97:UInt8)).toNat:Int)+(10:Int)))<|some (((a0-(97:UInt8)).toNat:Int)+(10:Int)))else some (-1:Int)))))))
def agd(fu:Nat)(a1:Str)(a2:Int->Option (Unit⊕(Str×Bool)))(a0:Int):Option (Unit⊕(Str×Bool)):=
 (if a0<(a1.length:Int)then(gd (0<=a0/\a0<(a1.length:Int))<|((asi fu (at_ a1 a0)).bind fun(a3:Int)=>(if a3<(0:Int)then some (.inr (([]:Str),false))else(gd (acd (a0+(1:Int)))<|(a2 (a0+(1:Int)))))))else some (.inl ()))
def aki(fu:Nat)(a1:Str):Nat->Int->Option (Unit⊕(Str×Bool)):=fun k_ a0=>loopF (fun(g:Int->Option (Unit⊕(Str×Bool))) v=>agd fu a1 (fun a0=>g a0) v) k_ a0
theorem ali{fu:Nat}{a0:Str}{k_:Nat}{a1:Int}:aki fu a0 (k_+1) a1=agd fu a0 (aki fu a0 k_) a1:=rfl
def ait(fu:Nat)(a1:Str->Option Str)(a0:Str):Option Str:=
 (((if(1:Int)<(a0.length:Int)then(gd (0<=(0:Int)/\(0:Int)<(a0.length:Int))<|some (decide ((at_ a0 (0:Int))=(48:UInt8))))else some false)).bind fun(a2:Bool)=>(bif a2 then(gd (0<=(1:Int)/\(1:Int)<=(a0.length:Int))<|(a1 (zak (zaf (1:Int)) a0)))else some a0))
def akh(fu:Nat):Nat->Str->Option Str:=fun k_ a0=>loopF (fun(g:Str->Option Str) v=>ait fu (fun a0=>g a0) v) k_ a0
theorem aop{fu:Nat}{k_:Nat}{a0:Str}:akh fu (k_+1) a0=ait fu (akh fu k_) a0:=rfl
def apw(fu:Nat)(a0:Str):Option (Str×Bool):=
 (((if(a0.length:Int)<(1:Int)then some true else some (decide ((4:Int)<(a0.length:Int))))).bind fun(v5:Bool)=>(bif v5 then some (([]:Str),false)else(((aki fu a0 fu (0:Int))).bind fun(a1:(Unit⊕(Str×Bool)))=>zaE (fun(a4:Unit)=>(((akh fu fu a0)).bind fun(a2:Str)=>((aeo fu a2).bind fun(a3:Str)=>some (a3,true)))) (fun q=>some q) a1)))
def ahw(fu:Nat)(y2:List Str)(a4:Str->Int->Option (Str⊕(Str×Int×Bool)))(a1:Str)(a0:Int):Option (Str⊕(Str×Int×Bool)):=
 (if a0<(y2.length:Int)then(gd (0<=a0/\a0<(y2.length:Int))<|(gd (0<=a0/\a0<(y2.length:Int))<|((apw fu (el y2 a0)).bind fun(a2:(Str×Bool))=>(bif (!a2.2)then some (.inr (([]:Str),(0:Int),false))else(((if(0:Int)<a0 then(gd (a1.length+([58]:Str).length<=9223372036854775807)<|some (a1++([58]:Str)))else some a1)).bind fun(a3:Str)=>(gd (a3.length+a2.1.length<=9223372036854775807)<|(gd (acd (a0+(1:Int)))<|(a4 (a3++a2.1) (a0+(1:Int))))))))))else some (.inl a1))
def agc(fu:Nat)(y2:List Str):Nat->Str->Int->Option (Str⊕(Str×Int×Bool)):=fun k_ a0 a1=>loopF (fun(g:(Str×Int)->Option (Str⊕(Str×Int×Bool))) v=>ahw fu y2 (fun a0 a1=>g (a0,a1)) v.1 v.2) k_ (a0,a1)
theorem anw{fu:Nat}{y2:List Str}{k_:Nat}{a0:Str}{a1:Int}:agc fu y2 (k_+1) a0 a1=ahw fu y2 (agc fu y2 k_) a0 a1:=rfl
def ajj(fu:Nat)(a0:Str):Option (Str×Int×Bool):=
 (if a0=([]:Str)then some (([]:Str),(0:Int),true)else((ame fu a0 (58:UInt8)).bind fun(y2:List Str)=>(((agc fu y2 fu ([]:Str) (0:Int))).bind fun(a1:(Str⊕(Str×Int×Bool)))=>zaE (fun(a2:Str)=>some (a2,(y2.length:Int),true)) (fun q=>some q) a1)))
def alu(fu:Nat)(a1:Str)(a4:Int->Option (Unit⊕(Str×Bool)))(a0:Int):Option (Unit⊕(Str×Bool)):=
 (gd (acd (a0+(1:Int)))<|(if(a0+(1:Int))<(a1.length:Int)then(((gd (0<=a0/\a0<(a1.length:Int))<|(if(at_ a1 a0)=(58:UInt8)then(gd (acd (a0+(1:Int)))<|(gd (0<=(a0+(1:Int))/\(a0+(1:Int))<(a1.length:Int))<|some (!decide ((at_ a1 (a0+(1:Int)))=(58:UInt8)))))else some true))).bind fun(a5:Bool)=>(bif a5 then(gd (acd (a0+(1:Int)))<|(a4 (a0+(1:Int))))else(gd (0<=a0/\a0<=(a1.length:Int))<|((ajj fu (zaS (zaf a0) a1)).bind fun(a2:(Str×Int×Bool))=>(gd (acd (a0+(2:Int)))<|(gd (0<=(a0+(2:Int))/\(a0+(2:Int))<=(a1.length:Int))<|((ajj fu (zak (zaf (a0+(2:Int))) a1)).bind fun(a3:(Str×Int×Bool))=>(((bif (!a2.2.2)then some true else(bif (!a3.2.2)then some true else(gd (acd (a2.2.1+a3.2.1))<|some (decide ((7:Int)<(a2.2.1+a3.2.1))))))).bind fun(a6:Bool)=>(bif a6 then some (.inr (([]:Str),false))else(gd (a2.1.length+([58,58]:Str).length<=9223372036854775807)<|(gd ((a2.1++([58,58]:Str)).length+a3.1.length<=9223372036854775807)<|some (.inr ((a2.1++([58,58]:Str))++a3.1,true)))))))))))))else some (.inl ())))
def aht(fu:Nat)(a1:Str):Nat->Int->Option (Unit⊕(Str×Bool)):=fun k_ a0=>loopF (fun(g:Int->Option (Unit⊕(Str×Bool))) v=>alu fu a1 (fun a0=>g a0) v) k_ a0
theorem aqu{fu:Nat}{a0:Str}{k_:Nat}{a1:Int}:aht fu a0 (k_+1) a1=alu fu a0 (aht fu a0 k_) a1:=rfl
def ash(fu:Nat)(a1:Str):Option (Str×Bool):=
 (((aht fu a1 fu (0:Int))).bind fun(a2:(Unit⊕(Str×Bool)))=>zaE (fun(a4:Unit)=>((ajj fu a1).bind fun(a0:(Str×Int×Bool))=>(((bif a0.2.2 then some (decide (a0.2.1=(8:Int)))else some false)).bind fun(a3:Bool)=>some (a0.1,a3)))) (fun q=>some q) a2)
def aoe(fu:Nat)(a0:UInt8):Option Bool:=
 (((if(65:UInt8)<=a0 then(if a0<=(90:UInt8)then some true else(if(97:UInt8)<=a0 then some (decide (a0<=(122:UInt8)))else some false))else(if(97:UInt8)<=a0 then some (decide (a0<=(122:UInt8)))else some false))).bind fun(v8:Bool)=>some v8)
def ais(fu:Nat)(a1:Str)(a2:Bool->Int->Option (Bool⊕(Bool×Bool)))(a3:Bool)(a0:Int):Option (Bool⊕(Bool×Bool)):=
 (if a0<(a1.length:Int)then(((gd (0<=a0/\a0<(a1.length:Int))<|((aoe fu (at_ a1 a0)).bind fun(a4:Bool)=>(bif (!a4)then(gd (0<=a0/\a0<(a1.length:Int))<|((ahb fu (at_ a1 a0)).bind fun(a5:Bool)=>(bif (!a5)then(gd (0<=a0/\a0<(a1.length:Int))<|some (!decide ((at_ a1 a0)=(45:UInt8))))else some false)))else some false)))).bind fun(a6:Bool)=>(bif a6 then some (.inr (false,false))else(bif a3 then(gd (acd (a0+(1:Int)))<|(a2 true (a0+(1:Int))))else(gd (0<=a0/\a0<(a1.length:Int))<|((ahb fu (at_ a1 a0)).bind fun(a7:Bool)=>(gd (acd (a0+(1:Int)))<|(a2 (!a7) (a0+(1:Int)))))))))else some (.inl a3))
def adl(fu:Nat)(a2:Str):Nat->Bool->Int->Option (Bool⊕(Bool×Bool)):=fun k_ a0 a1=>loopF (fun(g:(Bool×Int)->Option (Bool⊕(Bool×Bool))) v=>ais fu a2 (fun a0 a1=>g (a0,a1)) v.1 v.2) k_ (a0,a1)
theorem aoo{fu:Nat}{a0:Str}{k_:Nat}{a1:Bool}{a2:Int}:adl fu a0 (k_+1) a1 a2=ais fu a0 (adl fu a0 k_) a1 a2:=rfl
def apv(fu:Nat)(a0:Str):Option (Bool×Bool):=
 (((if(a0.length:Int)<(1:Int)then some true else(if(63:Int)<(a0.length:Int)then some true else(gd (0<=(0:Int)/\(0:Int)<(a0.length:Int))<|(if(at_ a0 (0:Int))=(45:UInt8)then some true else(gd (acd ((a0.length:Int)-(1:Int)))<|(gd (0<=((a0.length:Int)-(1:Int))/\((a0.length:Int)-(1:Int))<(a0.length:Int))<|some (decide ((at_ a0 ((a0.length:Int)-(1:Int)))=(45:UInt8)))))))))).bind fun(a1:Bool)=>(bif a1 then some (false,false)else(((adl fu a0 fu false (0:Int))).bind fun(a2:(Bool⊕(Bool×Bool)))=>zaE (fun(a3:Bool)=>some (true,a3)) (fun q=>some q) a2)))
def ahv(fu:Nat)(a1:Str)(a3:Int->Int->Option (Int⊕Bool))(a2:Int)(a0:Int):Option (Int⊕Bool):=
 (if a0<(a1.length:Int)then(gd (0<=a0/\a0<(a1.length:Int))<|((ahb fu (at_ a1 a0)).bind fun(a4:Bool)=>(bif (!a4)then some (.inr false)else(gd (acd ((10:Int)*a2))<|(gd (0<=a0/\a0<(a1.length:Int))<|(gd (acd (((10:Int)*a2)+(((at_ a1 a0)-(48:UInt8)).toNat:Int)))<|(gd (acd (a0+(1:Int)))<|(a3 (((10:Int)*a2)+(((at_ a1 a0)-(48:UInt8)).toNat:Int)) (a0+(1:Int))))))))))else some (.inl a2))
def aen(fu:Nat)(a2:Str):Nat->Int->Int->Option (Int⊕Bool):=fun k_ a0 a1=>loopF (fun(g:(Int×Int)->Option (Int⊕Bool)) v=>ahv fu a2 (fun a0 a1=>g (a0,a1)) v.1 v.2) k_ (a0,a1)
theorem anv{fu:Nat}{a0:Str}{k_:Nat}{a1:Int}{a2:Int}:aen fu a0 (k_+1) a1 a2=ahv fu a0 (aen fu a0 k_) a1 a2:=rfl
def aod(fu:Nat)(a0:Str):Option Bool:=
 (((if(a0.length:Int)<(1:Int)then some true else(if(3:Int)<(a0.length:Int)then some true else(if(1:Int)<(a0.length:Int)then(gd (0<=(0:Int)/\(0:Int)<(a0.length:Int))<|some (decide ((at_ a0 (0:Int))=(48:UInt8))))else some false)))).bind fun(v8:Bool)=>(bif v8 then some false else(((aen fu a0 fu (0:Int) (0:Int))).bind fun(a1:(Int⊕Bool))=>zaE (fun(a2:Int)=>some (decide (a2<=(255:Int)))) (fun q=>some q) a1)))
def akk(fu:Nat)(a1:List Str)(a2:Bool->Bool->Int->Option ((Bool×Bool)⊕(Str×Bool)))(a3:Bool)(a4:Bool)(a0:Int):Option ((Bool×Bool)⊕(Str×Bool)):=
 (if a0<(a1.length:Int)then(gd (0<=a0/\a0<(a1.length:Int))<|(gd (0<=a0/\a0<(a1.length:Int))<|((apv fu (el a1 a0)).bind fun(a5:(Bool×Bool))=>(bif (!a5.1)then some (.inr (([]:Str),false))else(((bif a4 then some true else some a5.2)).bind fun(a6:Bool)=>(bif a3 then(gd (0<=a0/\a0<(a1.length:Int))<|(gd (0<=a0/\a0<(a1.length:Int))<|((aod fu (el a1 a0)).bind fun(a7:Bool)=>(gd (acd (a0+(1:Int)))<|(a2 a7 a6 (a0+(1:Int)))))))else(gd (acd (a0+(1:Int)))<|(a2 false a6 (a0+(1:Int))))))))))else some (.inl (a3,a4)))
def ain(fu:Nat)(a3:List Str):Nat->Bool->Bool->Int->Option ((Bool×Bool)⊕(Str×Bool)):=fun k_ a0 a1 a2=>loopF (fun(g:(Bool×Bool×Int)->Option ((Bool×Bool)⊕(Str×Bool))) v=>akk fu a3 (fun a0 a1 a2=>g (a0,a1,a2)) v.1 v.2.1 v.2.2) k_ (a0,a1,a2)
theorem apx{fu:Nat}{a0:List Str}{k_:Nat}{a1:Bool}{a2:Bool}{a3:Int}:ain fu a0 (k_+1) a1 a2 a3=akk fu a0 (ain fu a0 k_) a1 a2 a3:=rfl
def apb(fu:Nat)(a0:Str):Option (Str×Bool):=
 (((if(2:Int)<=(a0.length:Int)then(gd (0<=(0:Int)/\(0:Int)<(a0.length:Int))<|(if(at_ a0 (0:Int))=(91:UInt8)then(gd (acd ((a0.length:Int)-(1:Int)))<|(gd (0<=((a0.length:Int)-(1:Int))/\((a0.length:Int)-(1:Int))<(a0.length:Int))<|some (decide ((at_ a0 ((a0.length:Int)-(1:Int)))=(93:UInt8)))))else some false))else some false)).bind fun(v9:Bool)=>(bif v9 then(gd (acd ((a0.length:Int)-(1:Int)))<|(gd (0<=(1:Int)/\(1:Int)<=((a0.length:Int)-(1:Int))/\((a0.length:Int)-(1:Int))<=(a0.length:Int))<|((ash fu (sub a0 (1:Int) ((a0.length:Int)-(1:Int)))).bind fun(a1:(Str×Bool))=>(bif (!a1.2)then some (([]:Str),false)else(gd (([91]:Str).length+a1.1.length<=9223372036854775807)<|(gd ((([91]:Str)++a1.1).length+([93]:Str).length<=9223372036854775807)<|some ((([91]:Str)++a1.1)++([93]:Str),true)))))))else((ame fu a0 (46:UInt8)).bind fun(a2:List Str)=>(((ain fu a2 fu (decide ((a2.length:Int)=(4:Int))) false (0:Int))).bind fun(a4:((Bool×Bool)⊕(Str×Bool)))=>zaE (fun(a3:(Bool×Bool))=>(((if(255:Int)<(a0.length:Int)then some true else(bif (!a3.2)then some (!a3.1)else some false))).bind fun(a5:Bool)=>(bif a5 then some (([]:Str),false)else((aeo fu a0).bind fun(a6:Str)=>some (a6,true))))) (fun q=>some q) a4))))
def afh(fu:Nat)(a1:Str)(a3:Int->Int->Option (Int⊕(Int×UInt8)))(a2:Int)(a0:Int):Option (Int⊕(Int×UInt8)):=
 (if a0<(a1.length:Int)then(((gd (0<=a0/\a0<(a1.length:Int))<|(if(at_ a1 a0)<(48:UInt8)then some true else(gd (0<=a0/\a0<(a1.length:Int))<|(if(57:UInt8)<(at_ a1 a0)then some true else some (decide ((10:Int)<=a0))))))).bind fun(a4:Bool)=>(bif a4 then some (.inr ((0:Int),(5:UInt8)))else(gd (acd ((10:Int)*a2))<|(gd (0<=a0/\a0<(a1.length:Int))<|(gd (acd (((10:Int)*a2)+(((at_ a1 a0)-(48:UInt8)).toNat:Int)))<|(gd (acd (a0+(1:Int)))<|(a3 (((10:Int)*a2)+(((at_ a1 a0)-(48:UInt8)).toNat:Int)) (a0+(1:Int)))))))))else some (.inl a2))
def agi(fu:Nat)(a2:Str):Nat->Int->Int->Option (Int⊕(Int×UInt8)):=fun k_ a0 a1=>loopF (fun(g:(Int×Int)->Option (Int⊕(Int×UInt8))) v=>afh fu a2 (fun a0 a1=>g (a0,a1)) v.1 v.2) k_ (a0,a1)
theorem ajo{fu:Nat}{a0:Str}{k_:Nat}{a1:Int}{a2:Int}:agi fu a0 (k_+1) a1 a2=afh fu a0 (agi fu a0 k_) a1 a2:=rfl
def aof(fu:Nat)(a0:Str):Option (Int×UInt8):=
 (((agi fu a0 fu (0:Int) (0:Int))).bind fun(a2:(Int⊕(Int×UInt8)))=>zaE (fun(a1:Int)=>(if a0=([]:Str)then some ((0:Int),(5:UInt8))else(if(2147483647:Int)<a1 then some ((0:Int),(3:UInt8))else some (a1,(0:UInt8))))) (fun q=>some q) a2)
def arf(fu:Nat)(a0:Str):Option (Int×UInt8):=
 ((aof fu a0).bind fun(y1:(Int×UInt8))=>(((if y1.2=(0:UInt8)then(if y1.1<(1:Int)then some true else some (decide ((65535:Int)<y1.1)))else some false)).bind fun(a1:Bool)=>(bif a1 then some ((0:Int),(3:UInt8))else some (y1.1,y1.2))))
def aga(fu:Nat)(a1:Str)(a2:Int->Option Int)(a0:Int):Option Int:=
 (((if a0<(a1.length:Int)then(gd (0<=a0/\a0<(a1.length:Int))<|some (!decide ((at_ a1 a0)=(93:UInt8))))else some false)).bind fun(a3:Bool)=>(bif a3 then(gd (acd (a0+(1:Int)))<|(a2 (a0+(1:Int))))else some a0))
def ahj(fu:Nat)(a1:Str):Nat->Int->Option Int:=fun k_ a0=>loopF (fun(g:Int->Option Int) v=>aga fu a1 (fun a0=>g a0) v) k_ a0
theorem alh{fu:Nat}{a0:Str}{k_:Nat}{a1:Int}:ahj fu a0 (k_+1) a1=aga fu a0 (ahj fu a0 k_) a1:=rfl
def apu(fu:Nat)(a1:Str)(a0:Int):Option (Str×Int×UInt8):=
 (((if a0<(a1.length:Int)then(gd (0<=a0/\a0<(a1.length:Int))<|some (decide ((at_ a1 a0)=(34:UInt8))))else some false)).bind fun(v6:Bool)=>(bif v6 then((akl fu a1 a0).bind fun(a4:(Str×Int×UInt8))=>some (a4.1,a4.2.1,a4.2.2))else(((((if a0<(a1.length:Int)then(gd (0<=a0/\a0<(a1.length:Int))<|some (decide ((at_ a1 a0)=(91:UInt8))))else some false)).bind fun(a6:Bool)=>(bif a6 then(((ahj fu a1 fu a0)).bind fun(a2:Int)=>(gd (acd (a2+(1:Int)))<|(gd (0<=a0/\a0<=(min (a2+(1:Int)) (a1.length:Int))/\(min (a2+(1:Int)) (a1.length:Int))<=(a1.length:Int))<|((apb fu (sub a1 a0 (min (a2+(1:Int)) (a1.length:Int)))).bind fun(a5:(Str×Bool))=>(bif (!a5.2)then some (.inr (([]:Str),a0,(5:UInt8)))else(gd (acd (a2+(1:Int)))<|some (.inr (a5.1,a2+(1:Int),(0:UInt8)))))))))else some (.inl ())))).bind fun(a7:(Unit⊕(Str×Int×UInt8)))=>zaE (fun(a8:Unit)=>((aev fu a1 a0).bind fun(a3:Int)=>(if a3=a0 then some (([]:Str),a0,(5:UInt8))else(gd (0<=a0/\a0<=a3/\a3<=(a1.length:Int))<|some (sub a1 a0 a3,a3,(0:UInt8)))))) (fun q=>some q) a7)))
def ahk(fu:Nat)(a1:LQ)(a2:Str)(a3:Int->Option (Unit⊕Int))(a0:Int):Option (Unit⊕Int):=
 (if a0<(a1.length:Int)then(gd (0<=a0/\a0<(a1.length:Int))<|(gd (0<=a0/\a0<(a1.length:Int))<|((aeo fu ((el a1 a0).1)).bind fun(a4:Str)=>((aeo fu a2).bind fun(a5:Str)=>(if a4=a5 then some (.inr a0)else(gd (acd (a0+(1:Int)))<|(a3 (a0+(1:Int)))))))))else some (.inl ()))
def alv(fu:Nat)(a1:LQ)(a2:Str):Nat->Int->Option (Unit⊕Int):=fun k_ a0=>loopF (fun(g:Int->Option (Unit⊕Int)) v=>ahk fu a1 a2 (fun a0=>g a0) v) k_ a0
theorem amq{fu:Nat}{a0:LQ}{a1:Str}{k_:Nat}{a2:Int}:alv fu a0 a1 (k_+1) a2=ahk fu a0 a1 (alv fu a0 a1 k_) a2:=rfl
def apa(fu:Nat)(a0:LQ)(a1:Str):Option Int:=
 (((alv fu a0 a1 fu (0:Int))).bind fun(a2:(Unit⊕Int))=>zaE (fun(a3:Unit)=>some (-1:Int)) (fun q=>some q) a2)
def aoz(fu:Nat)(a0:LQ)(a1:Str):Option UInt8:=
 ((apa fu a0 a1).bind fun(y1:Int)=>(if(0:Int)<=y1 then some (7:UInt8)else(if(16:Int)<=(a0.length:Int)then some (4:UInt8)else some (0:UInt8))))
def ahx(fu:Nat)(a0:Str)(b0:LQ->Int->Option (LQ⊕(LQ×Int×UInt8)))(a7:LQ)(a1:Int):Option (LQ⊕(LQ×Int×UInt8)):=
 (if a1<(a0.length:Int)then(gd (0<=a1/\a1<(a0.length:Int))<|(if(at_ a0 a1)=(59:UInt8)then(gd (acd (a1+(1:Int)))<|((adj fu a0 (a1+(1:Int))).bind fun(a2:Int)=>((aev fu a0 a2).bind fun(a4:Int)=>(if a4=a2 then some (.inr (([]:LQ),a2,(5:UInt8)))else(gd (0<=a2/\a2<=a4/\a4<=(a0.length:Int))<|((aeo fu (sub a0 a2 a4)).bind fun(a8:Str)=>((adj fu a0 a4).bind fun(a3:Int)=>(((((if a3<(a0.length:Int)then(gd (0<=a3/\a3<(a0.length:Int))<|some (decide ((at_ a0 a3)=(61:UInt8))))else some false)).bind fun(b1:Bool)=>(bif b1 then(gd (acd (a3+(1:Int)))<|((adj fu a0 (a3+(1:Int))).bind fun(b2:Int)=>((apu fu a0 b2).bind fun(a5:(Str×Int×UInt8))=>(if a5.2.2=(0:UInt8)then((adj fu a0 a5.2.1).bind fun(b3:Int)=>some (.inl (b3,a5.1,true)))else some (.inr (([]:LQ),a5.2.1,a5.2.2))))))else some (.inl (a3,([]:Str),false))))).bind fun(b4:((Int×Str×Bool)⊕(LQ×Int×UInt8)))=>zaE (fun(a6:(Int×Str×Bool))=>((aoz fu a7 a8).bind fun(a9:UInt8)=>(if a9=(0:UInt8)then(gd ((a7.length+([(a8,a6.2.1,a6.2.2)]:LQ).length)*40<=140737488355328)<|(b0 (a7++([(a8,a6.2.1,a6.2.2)]:LQ)) a6.1))else some (.inr (([]:LQ),a2,a9))))) (fun q=>some (.inr q)) b4))))))))else some (.inr (([]:LQ),a1,(5:UInt8)))))else some (.inl a7))
def age(fu:Nat)(a2:Str):Nat->LQ->Int->Option (LQ⊕(LQ×Int×UInt8)):=fun k_ a0 a1=>loopF (fun(g:(LQ×Int)->Option (LQ⊕(LQ×Int×UInt8))) v=>ahx fu a2 (fun a0 a1=>g (a0,a1)) v.1 v.2) k_ (a0,a1)
theorem anx{fu:Nat}{a0:Str}{k_:Nat}{a1:LQ}{a2:Int}:age fu a0 (k_+1) a1 a2=ahx fu a0 (age fu a0 k_) a1 a2:=rfl
def amf(fu:Nat)(a0:Str):Option (LQ×Int×UInt8):=
 ((adj fu a0 (0:Int)).bind fun(y1:Int)=>(((age fu a0 fu ([]:LQ) y1)).bind fun(a1:(LQ⊕(LQ×Int×UInt8)))=>zaE (fun(a2:LQ)=>some (a2,(0:Int),(0:UInt8))) (fun q=>some q) a1))
def aqv(fu:Nat)(a0:LQ)(a1:Str):Option (Str×Bool):=
 ((apa fu a0 a1).bind fun(y1:Int)=>(if y1<(0:Int)then some (([]:Str),false)else(gd (0<=y1/\y1<(a0.length:Int))<|(gd (0<=y1/\y1<(a0.length:Int))<|some ((el a0 y1).2.1,true)))))
def ail(fu:Nat)(y4:Str)(a1:Int->Option Int)(a0:Int):Option Int:=
 (((if a0<(y4.length:Int)then(gd (0<=a0/\a0<(y4.length:Int))<|(if(at_ y4 a0)=(59:UInt8)then some false else(gd (0<=a0/\a0<(y4.length:Int))<|((ahc fu (at_ y4 a0)).bind fun(a2:Bool)=>some (!a2)))))else some false)).bind fun(a3:Bool)=>(bif a3 then(gd (acd (a0+(1:Int)))<|(a1 (a0+(1:Int))))else some a0))
def ake(fu:Nat)(y4:Str):Nat->Int->Option Int:=fun k_ a0=>loopF (fun(g:Int->Option Int) v=>ail fu y4 (fun a0=>g a0) v) k_ a0
theorem anj{fu:Nat}{y4:Str}{k_:Nat}{a0:Int}:ake fu y4 (k_+1) a0=ail fu y4 (ake fu y4 k_) a0:=rfl
def alt(fu:Nat)(y4:Str)(a1:Int)(a2:Int->Int->Option Int)(a3:Int)(a0:Int):Option Int:=
 (if a0<a1 then(((gd (0<=a0/\a0<(y4.length:Int))<|(if(at_ y4 a0)=(58:UInt8)then some a0 else some a3))).bind fun(a4:Int)=>(gd (0<=a0/\a0<(y4.length:Int))<|(if(at_ y4 a0)=(93:UInt8)then(gd (acd (a0+(1:Int)))<|(a2 a1 (a0+(1:Int))))else(gd (acd (a0+(1:Int)))<|(a2 a4 (a0+(1:Int)))))))else some a3)
def amw(fu:Nat)(y4:Str)(a2:Int):Nat->Int->Int->Option Int:=fun k_ a0 a1=>loopF (fun(g:(Int×Int)->Option Int) v=>alt fu y4 a2 (fun a0 a1=>g (a0,a1)) v.1 v.2) k_ (a0,a1)
theorem aqs{fu:Nat}{y4:Str}{a0:Int}{k_:Nat}{a1:Int}{a2:Int}:amw fu y4 a0 (k_+1) a1 a2=alt fu y4 a0 (amw fu y4 a0 k_) a1 a2:=rfl
def aqt(fu:Nat)(a6:Str):Option ((Str×Str×Int×Str×LQ)×UInt8):=
 ((apc fu a6).bind fun(y4:Str)=>((aev fu y4 (8:Int)).bind fun(y9:Int)=>((adj fu y4 y9).bind fun(a2:Int)=>(((if(y4.length:Int)<(8:Int)then some true else(gd (0<=(8:Int)/\(8:Int)<=(y4.length:Int))<|((anh fu (zaS (zaf (8:Int)) y4)).bind fun(a7:Str)=>(if a7=([83,73,80,47,50,46,48,47]:Str)then(if y9=(8:Int)then some true else some (decide (a2=y9)))else some true))))).bind fun(a8:Bool)=>(bif a8 then some ((([]:Str),([]:Str),(0:Int),([]:Str),([]:LQ)),(5:UInt8))else(((ake fu y4 fu a2)).bind fun(a0:Int)=>(((amw fu y4 a0 fu a0 a2)).bind fun(a1:Int)=>(gd (0<=a2/\a2<=a1/\a1<=(y4.length:Int))<|((apb fu (sub y4 a2 a1)).bind fun(a5:(Str×Bool))=>(bif (!a5.2)then some ((([]:Str),([]:Str),(0:Int),([]:Str),([]:LQ)),(5:UInt8))else(gd (0<=(8:Int)/\(8:Int)<=y9/\y9<=(y4.length:Int))<|((anh fu (sub y4 (8:Int) y9)).bind fun(a9:Str)=>(((if a1<a0 then(gd (acd (a1+(1:Int)))<|(gd (0<=(a1+(1:Int))/\(a1+(1:Int))<=a0/\a0<=(y4.length:Int))<|((arf fu (sub y4 (a1+(1:Int)) a0)).bind fun(a4:(Int×UInt8))=>(if a4.2=(0:UInt8)then some (.inl a4.1)else some (.inr ((([]:Str),([]:Str),(0:Int),([]:Str),([]:LQ)),a4.2))))))else some (.inl (0:Int)))).bind fun(b0:(Int⊕((Str×Str×Int×Str×LQ)×UInt8)))=>zaE (fun(b1:Int)=>(gd (0<=a0/\a0<=(y4.length:Int))<|((amf fu (zak (zaf a0) y4)).bind fun(a3:(LQ×Int×UInt8))=>(if a3.2.2=(0:UInt8)then((aqv fu a3.1 ([98,114,97,110,99,104]:Str)).bind fun(b2:(Str×Bool))=>some ((a9,a5.1,b1,b2.1,a3.1),(0:UInt8)))else some ((([]:Str),([]:Str),(0:Int),([]:Str),([]:LQ)),a3.2.2))))) (fun q=>some q) b0)))))))))))))
def aem:Nat->Int->Option Str
 |0,_=>none
 |fu+1,a0=>(if a0<(10:Int)then(gd (acd (a0+(1:Int)))<|(gd (0<=a0/\a0<=(a0+(1:Int))/\(a0+(1:Int))<=(([48,49,50,51,52,53,54,55,56,57]:Str).length:Int))<|some (sub ([48,49,50,51,52,53,54,55,56,57]:Str) a0 (a0+(1:Int)))))else(gd (0<=a0/\0<(10:Int)/\acd (a0))<|((aem fu (a0/(10:Int))).bind fun(y5:Str)=>(gd (0<=a0/\0<(10:Int)/\acd (a0))<|(gd (0<=a0/\0<(10:Int)/\acd (a0))<|(gd (acd ((a0%(10:Int))+(1:Int)))<|(gd (0<=(a0%(10:Int))/\(a0%(10:Int))<=((a0%(10:Int))+(1:Int))/\((a0%(10:Int))+(1:Int))<=(([48,49,50,51,52,53,54,55,56,57]:Str).length:Int))<|(gd (y5.length+(sub ([48,49,50,51,52,53,54,55,56,57]:Str) (a0%(10:Int)) ((a0%(10:Int))+(1:Int))).length<=9223372036854775807)<|some (y5++(sub ([48,49,50,51,52,53,54,55,56,57]:Str) (a0%(10:Int)) ((a0%(10:Int))+(1:Int))))))))))))
def aox(fu:Nat)(a0:Int):Option Str:=
 (if a0=(0:Int)then((aem fu (5060:Int)).bind fun(y2:Str)=>some y2)else((aem fu a0).bind fun(y7:Str)=>some y7))
def ajy(fu:Nat)(a1:List (Str×Str))(a2:Str)(a3:Int->Option (Unit⊕Int))(a0:Int):Option (Unit⊕Int):=
 (if a0<(a1.length:Int)then(gd (0<=a0/\a0<(a1.length:Int))<|(gd (0<=a0/\a0<(a1.length:Int))<|((asb fu ((el a1 a0).1) a2).bind fun(a4:Bool)=>(bif a4 then some (.inr a0)else(gd (acd (a0+(1:Int)))<|(a3 (a0+(1:Int))))))))else some (.inl ()))
def aii(fu:Nat)(a1:List (Str×Str))(a2:Str):Nat->Int->Option (Unit⊕Int):=fun k_ a0=>loopF (fun(g:Int->Option (Unit⊕Int)) v=>ajy fu a1 a2 (fun a0=>g a0) v) k_ a0
theorem apn{fu:Nat}{a0:List (Str×Str)}{a1:Str}{k_:Nat}{a2:Int}:aii fu a0 a1 (k_+1) a2=ajy fu a0 a1 (aii fu a0 a1 k_) a2:=rfl
def ard(fu:Nat)(a0:List (Str×Str))(a1:Str):Option Int:=
 (((aii fu a0 a1 fu (0:Int))).bind fun(a2:(Unit⊕Int))=>zaE (fun(a3:Unit)=>some (-1:Int)) (fun q=>some q) a2)
def ahs(fu:Nat)(a1:List Str)(a4:Str->Int->Option Str)(a2:Str)(a0:Int):Option Str:=
 (if a0<(a1.length:Int)then(((if(0:Int)<a0 then(gd (a2.length+([44,32]:Str).length<=9223372036854775807)<|some (a2++([44,32]:Str)))else some a2)).bind fun(a3:Str)=>(gd (0<=a0/\a0<(a1.length:Int))<|(gd (0<=a0/\a0<(a1.length:Int))<|(gd (a3.length+(el a1 a0).length<=9223372036854775807)<|(gd (acd (a0+(1:Int)))<|(a4 (a3++(el a1 a0)) (a0+(1:Int))))))))else some a2)
def afz(fu:Nat)(a2:List Str):Nat->Str->Int->Option Str:=fun k_ a0 a1=>loopF (fun(g:(Str×Int)->Option Str) v=>ahs fu a2 (fun a0 a1=>g (a0,a1)) v.1 v.2) k_ (a0,a1)
theorem ant{fu:Nat}{a0:List Str}{k_:Nat}{a1:Str}{a2:Int}:afz fu a0 (k_+1) a1 a2=ahs fu a0 (afz fu a0 k_) a1 a2:=rfl
def amd(fu:Nat)(a0:List Str):Option Str:=
 (((afz fu a0 fu ([]:Str) (0:Int))).bind fun(a1:Str)=>some a1)
def atc(fu:Nat)(m_0:(Str×Str×Int×Str×(List (Str×Str))×(List UInt8)))(a0:List (Str×Str)):Option (Str×Str×Int×Str×(List (Str×Str))×(List UInt8)):=
 some (m_0.1,m_0.2.1,m_0.2.2.1,m_0.2.2.2.1,a0,m_0.2.2.2.2.2)
def afa(fu:Nat)(m_0:(Str×Str×Int×Str×(List (Str×Str))×(List UInt8)))(y7:Int)(a2:(List (Str×Str))->Int->Option (List (Str×Str)))(a1:List (Str×Str))(a0:Int):Option (List (Str×Str)):=
 (if a0<(m_0.2.2.2.2.1.length:Int)then(gd (0<=a0/\a0<(m_0.2.2.2.2.1.length:Int))<|(gd (0<=a0/\a0<(m_0.2.2.2.2.1.length:Int))<|(if a0=y7 then((aij fu (el m_0.2.2.2.2.1 a0)).bind fun(a3:List Str)=>(if(a3.length:Int)<(2:Int)then(gd (acd (a0+(1:Int)))<|(a2 a1 (a0+(1:Int))))else(gd (0<=(1:Int)/\(1:Int)<=(a3.length:Int))<|((amd fu (zak (zaf (1:Int)) a3)).bind fun(a4:Str)=>(gd ((a1.length+([((el m_0.2.2.2.2.1 a0).1,a4)]:List (Str×Str)).length)*32<=140737488355328)<|(gd (acd (a0+(1:Int)))<|(a2 (a1++([((el m_0.2.2.2.2.1 a0).1,a4)]:List (Str×Str))) (a0+(1:Int)))))))))else(gd ((a1.length+([el m_0.2.2.2.2.1 a0]:List (Str×Str)).length)*32<=140737488355328)<|(gd (acd (a0+(1:Int)))<|(a2 (a1++([el m_0.2.2.2.2.1 a0]:List (Str×Str))) (a0+(1:Int))))))))else some a1)
def aea(fu:Nat)(m_0:(Str×Str×Int×Str×(List (Str×Str))×(List UInt8)))(y7:Int):Nat->(List (Str×Str))->Int->Option (List (Str×Str)):=fun k_ a0 a1=>loopF (fun(g:((List (Str×Str))×Int)->Option (List (Str×Str))) v=>afa fu m_0 y7 (fun a0 a1=>g (a0,a1)) v.1 v.2) k_ (a0,a1)
theorem alf{fu:Nat}{m_0:(Str×Str×Int×Str×(List (Str×Str))×(List UInt8))}{y7:Int}{k_:Nat}{a0:List (Str×Str)}{a1:Int}:aea fu m_0 y7 (k_+1) a0 a1=afa fu m_0 y7 (aea fu m_0 y7 k_) a0 a1:=rfl
def aka(fu:Nat)(m_0:(Str×Str×Int×Str×(List (Str×Str))×(List UInt8)))(a2:Str):Option (Str×Str×Int×Str×(List (Str×Str))×(List UInt8)):=
 ((ard fu m_0.2.2.2.2.1 a2).bind fun(y7:Int)=>(((aea fu m_0 y7 fu ([]:List (Str×Str)) (0:Int))).bind fun(a1:List (Str×Str))=>((atc fu m_0 a1).bind fun(a0:(Str×Str×Int×Str×(List (Str×Str))×(List UInt8)))=>some (a0.1,a0.2.1,a0.2.2.1,a0.2.2.2.1,a1,m_0.2.2.2.2.2))))
def arc(fu:Nat)(m_0:(Str×Str×Int×Str×(List (Str×Str))×(List UInt8)))(a7:Str):Option ((Str×Str×Int×Str×(List (Str×Str))×(List UInt8))×Str×UInt8):=
 (((if m_0.2.2.1<(100:Int)then some true else some (decide ((699:Int)<m_0.2.2.1)))).bind fun(a8:Bool)=>(bif a8 then some ((([]:Str),([]:Str),(0:Int),([]:Str),([]:List (Str×Str)),([]:List UInt8)),([]:Str),(2:UInt8))else((aqr fu m_0 ([86,105,97]:Str)).bind fun(a3:List Str)=>(if(a3.length:Int)=(0:Int)then some ((([]:Str),([]:Str),(0:Int),([]:Str),([]:List (Str×Str)),([]:List UInt8)),([]:Str),(8:UInt8))else(gd (0<=(0:Int)/\(0:Int)<(a3.length:Int))<|(gd (0<=(0:Int)/\(0:Int)<(a3.length:Int))<|((aqt fu (el a3 (0:Int))).bind fun(a1:((Str×Str×Int×Str×LQ)×UInt8))=>(((if a1.2=(0:UInt8)then(gd (a1.1.2.1.length+([58]:Str).length<=9223372036854775807)<|((aox fu a1.1.2.2.1).bind fun(a5:Str)=>(gd ((a1.1.2.1++([58]:Str)).length+a5.length<=9223372036854775807)<|some (!decide (((a1.1.2.1++([58]:Str))++a5)=a7)))))else some true)).bind fun(a9:Bool)=>(bif a9 then some ((([]:Str),([]:Str),(0:Int),([]:Str),([]:List (Str×Str)),([]:List UInt8)),([]:Str),(8:UInt8))else((aka fu m_0 ([86,105,97]:Str)).bind fun(a0:(Str×Str×Int×Str×(List (Str×Str))×(List UInt8)))=>((aqr fu (a0.1,a0.2.1,a0.2.2.1,a0.2.2.2.1,a0.2.2.2.2.1,m_0.2.2.2.2.2) ([86,105,97]:Str)).bind fun(a4:List Str)=>(if(a4.length:Int)=(0:Int)then some ((a0.1,a0.2.1,a0.2.2.1,a0.2.2.2.1,a0.2.2.2.2.1,m_0.2.2.2.2.2),([]:Str),(0:UInt8))else(gd (0<=(0:Int)/\(0:Int)<(a4.length:Int))<|(gd (0<=(0:Int)/\(0:Int)<(a4.length:Int))<|((aqt fu (el a4 (0:Int))).bind fun(a2:((Str×Str×Int×Str×LQ)×UInt8))=>(if a2.2=(0:UInt8)then(gd (a2.1.2.1.length+([58]:Str).length<=9223372036854775807)<|((aox fu a2.1.2.2.1).bind fun(a6:Str)=>(gd ((a2.1.2.1++([58]:Str)).length+a6.length<=9223372036854775807)<|some ((a0.1,a0.2.1,a0.2.2.1,a0.2.2.2.1,a0.2.2.2.2.1,m_0.2.2.2.2.2),(a2.1.2.1++([58]:Str))++a6,(0:UInt8)))))else some ((a0.1,a0.2.1,a0.2.2.1,a0.2.2.2.1,a0.2.2.2.2.1,m_0.2.2.2.2.2),([]:Str),(0:UInt8))))))))))))))))))
def ajz(fu:Nat)(a1:(Str×Str×Int×Str×(List (Str×Str))×(List UInt8)))(a2:(Str×Str×Int×Str×(List (Str×Str))×(List UInt8)))(a3:Int->Option (Unit⊕Bool))(a0:Int):Option (Unit⊕Bool):=
 (if a0<(a1.2.2.2.2.1.length:Int)then(gd (0<=a0/\a0<(a1.2.2.2.2.1.length:Int))<|(gd (0<=a0/\a0<(a1.2.2.2.2.1.length:Int))<|(gd (0<=a0/\a0<(a2.2.2.2.2.1.length:Int))<|(gd (0<=a0/\a0<(a2.2.2.2.2.1.length:Int))<|(if(el a1.2.2.2.2.1 a0)=(el a2.2.2.2.2.1 a0)then(gd (acd (a0+(1:Int)))<|(a3 (a0+(1:Int))))else some (.inr false))))))else some (.inl ()))
def aik(fu:Nat)(a1:(Str×Str×Int×Str×(List (Str×Str))×(List UInt8)))(a2:(Str×Str×Int×Str×(List (Str×Str))×(List UInt8))):Nat->Int->Option (Unit⊕Bool):=fun k_ a0=>loopF (fun(g:Int->Option (Unit⊕Bool)) v=>ajz fu a1 a2 (fun a0=>g a0) v) k_ a0
theorem apo{fu:Nat}{a0:(Str×Str×Int×Str×(List (Str×Str))×(List UInt8))}{a1:(Str×Str×Int×Str×(List (Str×Str))×(List UInt8))}{k_:Nat}{a2:Int}:aik fu a0 a1 (k_+1) a2=ajz fu a0 a1 (aik fu a0 a1 k_) a2:=rfl
def are(fu:Nat)(a0:(Str×Str×Int×Str×(List (Str×Str))×(List UInt8)))(a1:(Str×Str×Int×Str×(List (Str×Str))×(List UInt8))):Option Bool:=
 (((if a0.1=a1.1 then(if a0.2.1=a1.2.1 then(if a0.2.2.1=a1.2.2.1 then(if a0.2.2.2.1=a1.2.2.2.1 then(if(a0.2.2.2.2.1.length:Int)=(a1.2.2.2.2.1.length:Int)then some (!decide (a0.2.2.2.2.2=a1.2.2.2.2.2))else some true)else some true)else some true)else some true)else some true)).bind fun(a2:Bool)=>(bif a2 then some false else(((aik fu a0 a1 fu (0:Int))).bind fun(a3:(Unit⊕Bool))=>zaE (fun(a4:Unit)=>some true) (fun q=>some q) a3)))
def ajr(fu:Nat)(m_0:(Str×Str×Int×Str×(List (Str×Str))×(List UInt8)))(a0:Str):Option Bool:=
 ((((ann fu m_0).bind fun(a3:Bool)=>(bif (!a3)then some true else some (decide ((100:Int)<(a0.length:Int)))))).bind fun(a4:Bool)=>(bif a4 then some true else((aoc fu m_0 a0).bind fun(a1:((Str×Str×Int×Str×(List (Str×Str))×(List UInt8))×Str×UInt8))=>((arc fu m_0 a0).bind fun(a2:((Str×Str×Int×Str×(List (Str×Str))×(List UInt8))×Str×UInt8))=>((((are fu a1.1 a2.1).bind fun(a5:Bool)=>(bif a5 then(if a1.2.1=a2.2.1 then(if a1.2.2=a2.2.2 then some true else some false)else some false)else some false))).bind fun(a6:Bool)=>some a6)))))
end Go.Wk
set_option maxRecDepth 100000
namespace Go.Wk
open Go.Px
open Bool renaming not_false -> zaK, not_true -> zav
open Int renaming toNat -> zaf
open List renaming append_assoc -> zbg, drop_eq_nil_of_le -> zaN, length_append -> zae, length_cons -> zac, length_nil -> zas, length_singleton -> zag, map_cons -> zaC, nil_append -> zaO, set -> zbd
open Option renaming bind_some -> zaa
open Sum renaming elim -> zaE, elim_inl -> zau, elim_inr -> zbi
def FU:Nat:=18446744073709551616
theorem afu:FU=18446744073709551616:=rfl
theorem ata(p:Str)(c:UInt8)(l:Str):at_ (p++c::l) (p.length:Int)=c:=by simp [at_]
theorem set_mid(p:Str)(c x:UInt8)(l:Str):zbd (p++c::l) (zaf (p.length:Int)) x=(p++[x])++l:=by simp
theorem agz(p:Str)(x:UInt8):((p.length:Int)+1)=((p++[x]).length:Int):=by simp
theorem ado(a:Int)(h0:0<=a)(h:a<=9223372036854775807):acd a:=⟨by omega,by omega⟩
theorem char_token(fu:Nat)(c:UInt8):aiy fu c=some (aaz c):=by
 show aiy 0 c=_
 revert c;exact acq _ (by decide+kernel)
theorem ref_char_token:∀c:UInt8,akn FU c=some (aaz c):=acq _ (by decide+kernel)
theorem lowerByte_eq(fu:Nat)(c:UInt8):aep fu c=some (ace c):=by
 show aep 0 c=_
 revert c;exact acq _ (by decide+kernel)
theorem upperByte_eq(fu:Nat)(c:UInt8):agn fu c=some (amt c):=by
 show agn 0 c=_
 revert c;exact acq _ (by decide+kernel)
theorem tokEnd_lp{fu:Nat}(s:Str)(hs:s.length<=9223372036854775807)(n:Nat):∀(k fk:Nat),k+n=s.length->n<fk->
  abz fu s fk (k:Int)=some ((k+afr aaz (s.drop k):Nat):Int):=by
 induction n with
 |zero=>
  intro k fk hk hf;obtain⟨fk,rfl⟩:=fkx fk;rw [adw,abw,if_neg omg,zaN omg];simp [afr]
 |succ n ih=>
  intro k fk hk hf;obtain⟨fk,rfl⟩:=fkx fk;rw [adw,abw,if_pos omg,aac omg,char_token,aok s k omg];simp only [zaa];cases h:aaz (at_ s k)
  ·simp [afr,h]
  ·rw [cond_true];rw [aac (ado _ omg omg)];have e:((k:Int)+1)=((k+1:Nat):Int):=rfl;rw [e,ih (k+1) fk omg omg];have e2:afr aaz (at_ s k::s.drop (k+1))=1+afr aaz (s.drop (k+1)):=by simp [afr,h,Nat.add_comm]
   rw [e2,Nat.add_assoc]
theorem refTokEnd_lp{fu:Nat}(hc:∀c,akn fu c=some (aaz c))(s:Str)(hs:s.length<=9223372036854775807)(n:Nat):∀(k fk:Nat),k+n=s.length->n<fk->
  agr fu s fk (k:Int)=some ((k+afr aaz (s.drop k):Nat):Int):=by
 induction n with
 |zero=>
  intro k fk hk hf;obtain⟨fk,rfl⟩:=fkx fk;rw [ami,afs,if_neg omg,zaN omg];simp [afr]
 |succ n ih=>
  intro k fk hk hf;obtain⟨fk,rfl⟩:=fkx fk;rw [ami,afs,if_pos omg,aac omg,hc,aok s k omg];simp only [zaa];cases h:aaz (at_ s k)
  ·simp [afr,h]
  ·rw [cond_true];rw [aac (ado _ omg omg)];have e:((k:Int)+1)=((k+1:Nat):Int):=rfl;rw [e,ih (k+1) fk omg omg];have e2:afr aaz (at_ s k::s.drop (k+1))=1+afr aaz (s.drop (k+1)):=by simp [afr,h,Nat.add_comm]
   rw [e2,Nat.add_assoc]
theorem skipTok_eq(s:Str)(hs:s.length<=9223372036854775807)(i:Int):acx FU s i=some ((aan aaz s i:Nat):Int):=by
 unfold acx aan;have h:min (max i 0) (s.length:Int)=((ajw i s.length:Nat):Int):=by unfold ajw;omega
 have:=clampN_le i s.length
 rw [h,tokEnd_lp s hs (s.length-ajw i s.length) _ FU omg (by rw [afu];omega)];rfl
theorem asv(s:Str)(hs:s.length<=9223372036854775807)(i:Int):aev FU s i=some ((aan aaz s i:Nat):Int):=by
 unfold aev aan;have h:min (max i 0) (s.length:Int)=((ajw i s.length:Nat):Int):=by unfold ajw;omega
 have:=clampN_le i s.length
 rw [h,refTokEnd_lp ref_char_token s hs (s.length-ajw i s.length) _ FU omg (by rw [afu];omega)];rfl
theorem tok_cases(s:Str):(if s=[]then some false else some (decide (((aan aaz s 0:Nat):Int)=(s.length:Int))))=some (isTok s):=by
 have:=tok_iff s
 by_cases h:s=[]
 ·subst h;rfl
 ·rw [if_neg h];congr 1;by_cases h2:((aan aaz s 0:Nat):Int)=(s.length:Int)
  ·rw [decide_eq_true h2,this.1 ⟨h,h2⟩]
  ·rw [decide_eq_false h2];cases h3:isTok s
   ·rfl
   ·exact absurd (this.2 h3).2 h2
theorem token_eq(s:Str)(hs:s.length<=9223372036854775807):aqb FU s=some (isTok s):=by
 unfold aqb aew;rw [skipTok_eq s hs];simp only [zaa,Option.bind_fun_some];exact tok_cases s
theorem refToken_eq(s:Str)(hs:s.length<=9223372036854775807):apz FU s=some (isTok s):=by
 unfold apz;rw [asv s hs];simp only [zaa,Option.bind_fun_some];exact tok_cases s
theorem mid_lt(p:Str)(c:UInt8)(l:Str):(0:Int)<=(p.length:Int)/\(p.length:Int)<((p++c::l).length:Int):=by
 rw [zae,zac];omega
theorem lower_lp{fu:Nat}(s:Str)(hs:s.length<=9223372036854775807)(l:Str):∀(p:Str) (fk:Nat),p.length+l.length=s.length->l.length<fk->
  abi fu s fk (p++l) (p.length:Int)=some (p++l.map ace):=by
 induction l with
 |nil=>
  intro p fk hk hf;obtain⟨fk,rfl⟩:=fkx fk;simp only [zas]at hk;rw [ade,abe,if_neg omg];rfl
 |cons c l ih=>
  intro p fk hk hf;obtain⟨fk,rfl⟩:=fkx fk;simp only [zac]at hk hf;have hb:=mid_lt p c l;rw [ade,abe,if_pos omg,aac hb,aac hb,ata,lowerByte_eq];simp only [zaa];rw [aac hb,aac hb,aac (ado _ omg omg),set_mid,agz p (ace c),ih (p++[ace c]) fk (by rw [zae,zag];omega) omg];simp
theorem lower_eq(s:Str)(hs:s.length<=9223372036854775807):abc FU s=some (aap s):=by
 unfold abc
 have:=lower_lp (fu:=FU) s hs s [] FU (by simp) (by rw [afu];omega)
 simp only [zaO,zas,Int.natCast_zero,Int.cast_ofNat_Int]at this;rw [this];rfl
theorem lowerB_up(c:UInt8)(h1:65<=c)(h2:c<=90):c+32=ace c:=by simp [ace,h1,h2]
theorem ara(c:UInt8)(h:¬(65<=c/\c<=90)):ace c=c:=by simp only [ace,if_neg h]
theorem refLower_lp{fu:Nat}(s:Str)(hs:s.length<=9223372036854775807)(l:Str):∀(p:Str) (fk:Nat),p.length+l.length=s.length->l.length<fk->
  akj fu s fk (p++l) (p.length:Int)=some (p++l.map ace):=by
 induction l with
 |nil=>
  intro p fk hk hf;obtain⟨fk,rfl⟩:=fkx fk;simp only [zas]at hk;rw [aoq,aiu,if_neg omg];rfl
 |cons c l ih0=>
  intro p fk hk hf;obtain⟨fk,rfl⟩:=fkx fk;simp only [zac]at hk hf;have hb:=mid_lt p c l;have ih:=ih0 (p++[ace c]) fk (by rw [zae,zag];omega) omg;have ok:acd ((p.length:Int)+1):=ado _ omg omg;rw [aoq,aiu,if_pos omg];simp only [aac hb,ata,aac ok,set_mid];by_cases h1:65<=c
  ·by_cases h2:c<=90
   ·simp only [if_pos h1,decide_eq_true h2,zaa,cond_true,lowerB_up c h1 h2];rw [agz p (ace c),ih];simp
   ·simp only [if_pos h1,decide_eq_false h2,zaa,cond_false];rw [ara c (fun h=>h2 h.2)]at ih;rw [agz p c,show p++c::l=(p++[c])++l by simp,ih];simp [ara c (fun h=>h2 h.2)]
  ·simp only [if_neg h1,zaa,cond_false];rw [ara c (fun h=>h1 h.1)]at ih;rw [agz p c,show p++c::l=(p++[c])++l by simp,ih];simp [ara c (fun h=>h1 h.1)]
theorem amv(s:Str)(hs:s.length<=9223372036854775807):aeo FU s=some (aap s):=by
 unfold aeo
 have:=refLower_lp (fu:=FU) s hs s [] FU (by simp) (by rw [afu];omega)
 simp only [zaO,zas,Int.natCast_zero,Int.cast_ofNat_Int]at this;rw [this];rfl
def longN(c:UInt8):Str:=(akr FU c).getD []
theorem long_eq:∀c:UInt8,akr FU c=some (longN c):=acq _ (by decide+kernel)
theorem short_eq:∀c:UInt8,apr FU c=some (longN c):=acq _ (by decide+kernel)
theorem special_eq(y:Str):akg FU y FU 0=adp FU y FU 0:=by kernel_rfl
def title:Bool->Str->Str
 |_,[]=>[]
 |f,c::l=>(if f then amt c else ace c)::title (c==45) l
theorem canon1_eq(fu:Nat)(f:Bool)(c:UInt8):alz fu c f=some (if f then amt c else ace c,c==45):=by
 show alz 0 c f=_
 revert c;cases f<;>exact acq _ (by decide+kernel)
theorem title_lp{fu:Nat}(s:Str)(hs:s.length<=9223372036854775807)(l:Str):∀(p:Str) (f:Bool) (fk:Nat),p.length+l.length=s.length->l.length<fk->
  (abq fu s fk (p++l) (p.length:Int) f).map (·.1)=some (p++title f l):=by
 induction l with
 |nil=>
  intro p f fk hk hf;obtain⟨fk,rfl⟩:=fkx fk;simp only [zas]at hk;rw [adm,abk,if_neg omg];rfl
 |cons c l ih=>
  intro p f fk hk hf;obtain⟨fk,rfl⟩:=fkx fk;simp only [zac]at hk hf;have hb:=mid_lt p c l;rw [adm,abk,if_pos omg,aac hb,aac hb,ata,canon1_eq,zaa,
   aac hb,aac hb,aac (ado _ omg omg),set_mid,agz p (if f then amt c else ace c),ih _ _ fk (by rw [zae,zag];omega) omg,zbg]
  rfl
theorem title_eq(s:Str)(hs:s.length<=9223372036854775807):∃b,abl FU s true=some (title true s,b):=by
 unfold abl
 have:=title_lp (fu:=FU) s hs s [] true FU (by simp) (by rw [afu];omega)
 obtain⟨r,h1,h2⟩:=Option.map_eq_some_iff.1 this;refine⟨r.2, ?_⟩
 rw [show((0:Int))=(([]:Str).length:Int)from rfl,show s=[]++s from rfl];simp only [zaO]at h1 h2⊢;rw [h1,zaa,h2]
def firstB(p:Str):Bool:=p.isEmpty||at_ p ((p.length:Int)-1)==45
theorem at_prev(p:Str)(c:UInt8)(l:Str)(h:p≠[]):at_ (p++c::l) ((p.length:Int)-1)=at_ p ((p.length:Int)-1):=by
 have:0<p.length:=List.length_pos_iff.2 h
 have e:((p.length:Int)-1).toNat=p.length-1:=by omega
 simp only [at_,e];rw [List.getD_eq_getElem?_getD,List.getD_eq_getElem?_getD,List.getElem?_append_left omg]
theorem first_snoc(p:Str)(x:UInt8):firstB (p++[x])=(x==45):=by
 have e:(((p++[x]).length:Int)-1)=(p.length:Int):=by simp
 simp only [firstB,e,ata];simp
theorem up45:∀c:UInt8,(amt (ace c)==45)=(c==45):=acq _ (by decide+kernel)
theorem low45:∀c:UInt8,(ace c==45)=(c==45):=acq _ (by decide+kernel)
theorem uplow:∀c:UInt8,amt (ace c)=amt c:=acq _ (by decide+kernel)
theorem upperB_up(c:UInt8)(h1:97<=c)(h2:c<=122):c-32=amt c:=by simp [amt,h1,h2]
theorem atm(c:UInt8)(h:¬(97<=c/\c<=122)):amt c=c:=by simp only [amt,if_neg h]
theorem refTitle_lp{fu:Nat}(s:Str)(hs:s.length<=9223372036854775807)(l:Str):∀(p:Str) (fk:Nat),p.length+l.length=s.length->l.length<fk->
  afg fu s fk (p++l.map ace) (p.length:Int)=some (p++title (firstB p) l):=by
 induction l with
 |nil=>
  intro p fk hk hf;obtain⟨fk,rfl⟩:=fkx fk;simp only [zas]at hk;rw [aon,air,if_neg omg];rfl
 |cons c l ih0=>
  intro p fk hk hf;obtain⟨fk,rfl⟩:=fkx fk;simp only [zac]at hk hf;have hb:=mid_lt p (ace c) (l.map ace);have ok:acd ((p.length:Int)+1):=ado _ omg omg;have ih:∀x,(x==45)=(c==45)->afg fu s fk ((p++[x])++l.map ace) ((p.length:Int)+1)=some (p++x::title (c==45) l):=fun x hx=>by
   rw [agz p x,ih0 (p++[x]) fk (by rw [zae,zag];omega) omg,first_snoc,hx,zbg];rfl
  have ihn:=ih (ace c) (low45 c);have ihu:=ih (amt (ace c)) (up45 c);rw [zbg,List.singleton_append]at ihn;rw [zaC,aon,air,if_pos omg];have sub:97<=ace c->ace c<=122->ace c-32=amt (ace c):=fun h1 h2=>upperB_up _ h1 h2
  have up:∀(A B:Option Str),(97<=ace c->ace c<=122->A=some (p++amt (ace c)::title (c==45) l))->B=some (p++ace c::title (c==45) l)->
    (Option.bind (if 97<=ace c then some (decide (ace c<=122))else some false) fun v=>bif v then A else B)=some (p++amt (ace c)::title (c==45) l):=by
   intro A B hA hB;by_cases h1:97<=ace c
   ·by_cases h2:ace c<=122
    ·rw [if_pos h1,decide_eq_true h2,zaa,cond_true,hA h1 h2]
    ·rw [if_pos h1,decide_eq_false h2,zaa,cond_false,hB,atm _ (fun h=>h2 h.2)]
   ·rw [if_neg h1,zaa,cond_false,hB,atm _ (fun h=>h1 h.1)]
  simp only [aac hb,ata,aac ok,set_mid];by_cases hp:p=[]
  ·have h0:(p.length:Int)=0:=by rw [hp];rfl
   have hfp:firstB p=true:=by rw [hp];rfl
   rw [if_pos h0,up _ _ (fun h1 h2=>by rw [sub h1 h2];exact ihu) ihn,hfp,uplow];rfl
  ·have hl:0<p.length:=List.length_pos_iff.2 hp;have hq:(0:Int)<=(p.length:Int)-1/\(p.length:Int)-1<((p++ace c::l.map ace).length:Int):=by omega
   rw [if_neg omg,aac (ado _ omg omg),aac hq,aac hq,at_prev _ _ _ hp];have he:p.isEmpty=false:=by cases p with|nil=>exact absurd rfl hp|cons _ _=>rfl
   by_cases h45:at_ p ((p.length:Int)-1)=45
   ·have hfp:firstB p=true:=by simp [firstB,h45]
    rw [if_pos h45,up _ _ (fun h1 h2=>by rw [sub h1 h2];exact ihu) ihn,hfp,uplow];rfl
   ·have hfp:firstB p=false:=by simp [firstB,h45,he]
    rw [if_neg h45,zaa,cond_false,hfp];exact ihn
theorem refTitle_eq(s:Str)(hs:s.length<=9223372036854775807):afg FU (aap s) FU (aap s) 0=some (title true s):=by
 have:=refTitle_lp (fu:=FU) (aap s) (by simpa [aap] using hs) s [] FU (by simp [aap]) (by rw [afu];omega)
 exact this
def adt(s:Str):Str×UInt8:=
 if isTok s=false\/64<s.length then([],5)
 else if s.length=1/\longN (ace (at_ s 0))≠[]then(longN (ace (at_ s 0)),0)
 else((adp FU (aap s) FU 0).getD (.inl ())).elim (fun _=>(title true s,0)) id
def specialO:List Str->Str->Option (Unit⊕(Str×UInt8))
 |[],_=>some (.inl ())
 |n::l,y=>if aap n=y then some (.inr (n,0))else specialO l y
theorem specialO_some(y:Str):∀l,∃r,specialO l y=some r
 |[]=>⟨_,rfl⟩
 |n::l=>by
  unfold specialO;split
  ·exact⟨_,rfl⟩
  ·exact specialO_some y l
theorem special_list(y:Str):adp FU y FU 0=specialO ajf y:=by kernel_rfl
theorem special_some(y:Str):∃r,adp FU y FU 0=some r:=by
 rw [special_list];exact specialO_some y _
theorem low_at(s:Str)(h:s.length=1):at_ (aap s) 0=ace (at_ s 0):=by
 match s,h with
 |[c],_=>rfl
theorem canon_eq(s:Str)(hs:s.length<=9223372036854775807):ajl FU s=some (adt s):=by
 unfold ajl adt;rw [token_eq s hs,zaa];obtain⟨r,hr⟩:=special_some (aap s);obtain⟨b,hb⟩:=title_eq s hs;cases ht:isTok s
 ·rfl
 ·rw [zav,cond_false,zaa];by_cases h64:64<s.length
  ·rw [decide_eq_true omg,cond_true,if_pos (Or.inr h64)]
  ·have hc:¬(true=false\/64<s.length):=by simp [h64]
   rw [decide_eq_false omg,cond_false,if_neg hc,lower_eq s hs,zaa,hr,zaa,Option.getD_some];have hrest:zaE (fun(v90:Unit)=>((abl FU s true).bind fun(y130:(Str×Bool))=>some (y130.1,(0:UInt8)))) (fun q=>some q) r=some (zaE (fun _=>(title true s,0)) id r):=by
    cases r with
    |inl _=>rw [zau,hb];rfl
    |inr _=>rfl
   by_cases h1:s.length=1
   ·have h1i:(s.length:Int)=1:=by omega
    rw [if_pos h1i,aac omg,lowerByte_eq,zaa,long_eq,zaa];by_cases h2:longN (ace (at_ s 0))=[]
    ·rw [if_pos h2,zaa,zau,if_neg (fun h=>h.2 h2)];exact hrest
    ·rw [if_neg h2,zaa,zbi,if_pos ⟨h1,h2⟩]
   ·have h1i:¬(s.length:Int)=1:=by omega
    rw [if_neg h1i,zaa,zau,if_neg (fun h=>h1 h.1)];exact hrest
theorem refCanon_eq(s:Str)(hs:s.length<=9223372036854775807):alg FU s=some (adt s):=by
 unfold alg adt;rw [refToken_eq s hs,zaa];obtain⟨r,hr⟩:=special_some (aap s);cases ht:isTok s
 ·rfl
 ·rw [zav,cond_false,zaa];by_cases h64:64<s.length
  ·rw [decide_eq_true omg,cond_true,if_pos (Or.inr h64)]
  ·have hc:¬(true=false\/64<s.length):=by simp [h64]
   rw [decide_eq_false omg,cond_false,if_neg hc,hr,Option.getD_some,amv s hs,zaa,special_eq,hr,zaa,refTitle_eq s hs];have hll:(aap s).length=s.length:=by simp [aap]
   have hrest:zaE (fun(v98:Unit)=>((some (title true s)).bind fun(v293:Str)=>some (v293,(0:UInt8)))) (fun q=>some q) r=some (zaE (fun _=>(title true s,0)) id r):=by
    cases r<;>rfl
   by_cases h1:s.length=1
   ·have h1i:(s.length:Int)=1:=by omega
    rw [if_pos h1i,aac omg,low_at s h1,short_eq,zaa,zaa];by_cases h2:longN (ace (at_ s 0))=[]
    ·rw [decide_eq_true h2,zav,cond_false,if_neg (fun h=>h.2 h2)];exact hrest
    ·rw [decide_eq_false h2,zaK,cond_true,aac omg,zaa,if_pos ⟨h1,h2⟩]
   ·have h1i:¬(s.length:Int)=1:=by omega
    rw [if_neg h1i,zaa,cond_false,if_neg (fun h=>h1 h.1)];exact hrest
theorem among_lp{fu:Nat}(c:Str)(l:List Str)(hl:l.length<=100)(hn:∀x∈l,x≠c)(n:Nat):∀(k fk:Nat),k+n=l.length->n<fk->akd fu c l fk (k:Int)=some (.inl ()):=by
 induction n with
 |zero=>
  intro k fk hk hf;obtain⟨fk,rfl⟩:=fkx fk;rw [aom,aiq,if_neg omg]
 |succ n ih=>
  intro k fk hk hf;obtain⟨fk,rfl⟩:=fkx fk;have hb:(0:Int)<=(k:Int)/\(k:Int)<(l.length:Int):=by omega
  have he:el l (k:Int)≠c:=by
   have:el l (k:Int)=l[k]'omg:=by simp [el,show k<l.length by omega]
   rw [this];exact hn _ (List.getElem_mem _)
  rw [aom,aiq,if_pos omg,aac hb,aac hb,if_neg he,aac (ado _ omg omg)];exact ih (k+1) fk omg omg
theorem among_not(c:Str)(l:List Str)(hl:l.length<=100)(hn:∀x∈l,x≠c):ael FU c l=some false:=by
 unfold ael
 have:=among_lp (fu:=FU) c l hl hn l.length 0 FU omg (by rw [afu];omega)
 rw [show((0:Int))=((0:Nat):Int)from rfl,this];rfl
theorem kind_lp{fu:Nat}(c:Str)(hn:∀x∈acy,x.1≠c)(n:Nat):∀(k fk:Nat),k+n=31->n<fk->aib fu c fk (k:Int)=some (.inl ()):=by
 have h31:acy.length=31:=by decide+kernel
 induction n with
 |zero=>
  intro k fk hk hf;obtain⟨fk,rfl⟩:=fkx fk;rw [amy,agu,if_neg omg]
 |succ n ih=>
  intro k fk hk hf;obtain⟨fk,rfl⟩:=fkx fk;have he:(el acy (k:Int)).1≠c:=by
   have:el acy (k:Int)=acy[k]'omg:=by simp [el,show k<acy.length by omega]
   rw [this];exact hn _ (List.getElem_mem _)
  rw [amy,agu,if_pos omg,aac omg,aac omg,if_neg he,aac (ado _ omg omg)];exact ih (k+1) fk omg omg
theorem kind_not(c:Str)(hn:∀x∈acy,x.1≠c):amz FU c=some 0:=by
 unfold amz
 have:=kind_lp (fu:=FU) c hn 31 0 FU omg (by rw [afu];omega)
 rw [show((0:Int))=((0:Nat):Int)from rfl,this];rfl
theorem refKind_not(c:Str)(hn:∀x∈acy,x.1≠c):aoy FU c=some 0:=by
 have hm:∀n:Str,(acy.any fun x=>x.1==n)=true->n≠c:=fun n h=>by
  obtain⟨x,hx,e⟩:=List.any_eq_true.1 h;rw [<-eq_of_beq e];exact hn x hx
 have hc:∀n:Str,(acy.any fun x=>x.1==n)=true->¬c=n:=fun n h e=>hm n h e.symm
 have ha:∀l:List Str,l.length<=100->(l.all fun n=>acy.any fun x=>x.1==n)=true->ael FU c l=some false:=fun l hl h=>among_not c l hl fun x hx=>hm x (List.all_eq_true.1 h x hx)
 unfold aoy;rw [ha _ (by decide) (by decide+kernel),zaa,cond_false,if_neg (hc _ (by decide+kernel)),if_neg (hc _ (by decide+kernel)),if_neg (hc _ (by decide+kernel)),ha _ (by decide) (by decide+kernel),zaa,cond_false,ha _ (by decide) (by decide+kernel),zaa,cond_false,ha _ (by decide) (by decide+kernel),zaa,cond_false]
def manyP(c:Str):Bool:=(ajb FU c).getD false
theorem many_in:∀x∈acy,ajb FU x.1=some (manyP x.1):=by decide+kernel
theorem many_not(c:Str)(hn:∀x∈acy,x.1≠c):ajb FU c=some false:=by
 have hm:∀n:Str,(acy.any fun x=>x.1==n)=true->¬c=n:=fun n h e=>by
  obtain⟨x,hx,e'⟩:=List.any_eq_true.1 h;exact hn x hx ((eq_of_beq e').trans e.symm)
 unfold ajb;rw [if_neg (hm _ (by decide+kernel)),if_neg (hm _ (by decide+kernel)),if_neg (hm _ (by decide+kernel)),if_neg (hm _ (by decide+kernel)),if_neg (hm _ (by decide+kernel)),zaa,zau,kind_not c hn];rfl
theorem many_eq(c:Str):ajb FU c=some (manyP c):=by
 by_cases h:∃x∈acy,x.1=c
 ·obtain⟨x,hx,rfl⟩:=h;exact many_in x hx
 ·have:=many_not c fun x hx e=>h ⟨x,hx,e⟩
  rw [manyP,this];rfl
def refManyL:List Str:=[([67,111,110,116,97,99,116]:Str),([80,97,116,104]:Str),([82,101,99,111,114,100,45,82,111,117,116,101]:Str),([82,111,117,116,101]:Str),([83,101,114,118,105,99,101,45,82,111,117,116,101]:Str),([86,105,97]:Str)]
theorem refMany_tail(c:Str):((aoy FU c).bind fun(y26:Int)=>(if y26=(7:Int)then some true else((ael FU c refManyL).bind fun(y35:Bool)=>some y35)))=some (manyP c):=by
 by_cases h:∃x∈acy,x.1=c
 ·obtain⟨x,hx,rfl⟩:=h
  revert x
  decide+kernel
 ·have hn:∀x∈acy,x.1≠c:=fun x hx e=>h ⟨x,hx,e⟩
  have hm:∀n:Str,(acy.any fun x=>x.1==n)=true->n≠c:=fun n h=>by
   obtain⟨x,hx,e⟩:=List.any_eq_true.1 h;rw [<-eq_of_beq e];exact hn x hx
  have ha:(refManyL.all fun n=>acy.any fun x=>x.1==n)=true:=by decide+kernel
  rw [refKind_not c hn,zaa,if_neg (by decide),among_not c refManyL (by decide) (fun x hx=>hm x (List.all_eq_true.1 ha x hx)),manyP,many_not c hn];rfl
theorem manyLaw_eq(s:Str)(hs:s.length<=9223372036854775807):ano FU s=some (if(adt s).2=0 then manyP (adt s).1 else false):=by
 unfold ano;rw [canon_eq s hs,zaa];by_cases h:(adt s).2=0
 ·rw [if_pos h,if_pos h,many_eq];rfl
 ·rw [if_neg h,if_neg h];rfl
theorem refManyLaw_eq(s:Str)(hs:s.length<=9223372036854775807):arh FU s=some (if(adt s).2=0 then manyP (adt s).1 else false):=by
 unfold arh;rw [refCanon_eq s hs,zaa];by_cases h:(adt s).2=0
 ·have:=refMany_tail (adt s).1
  unfold refManyL at this;rw [if_pos h,if_pos h,this];rfl
 ·rw [if_neg h,if_neg h];rfl
open Bool renaming not_true -> zav
open Go.Lib renaming trimLeftS -> zaY
open List renaming drop_drop -> zbr, drop_length -> zbf, length_drop -> zao
open Nat renaming le_refl -> zah, le_trans -> zaF
theorem gok{α:Type}{p:Prop}[Decidable p]{k:Option α}(h:p:=by first|omega|exact ado _ omg omg|(simp only [List.length_append,List.length_cons,List.length_nil,List.length_singleton];omega)):gd p k=k:=aac h
theorem afw(k:Nat):(k:Int)+1=((k+1:Nat):Int):=rfl
theorem skip_gen(p:UInt8->Bool)(s:Str)(F:Nat->Int->Option Int)
  (h0:∀fk,F (fk+1) (s.length:Int)=some (s.length:Int))
  (h1:∀fk (k:Nat),k<s.length->p (at_ s k)=false->F (fk+1) (k:Int)=some (k:Int))
  (h2:∀fk (k:Nat),k<s.length->p (at_ s k)=true->F (fk+1) (k:Int)=F fk ((k:Int)+1)) (n:Nat):
  ∀(k fk:Nat),k+n=s.length->n<fk->F fk (k:Int)=some ((k+afr p (s.drop k):Nat):Int):=by
 induction n with
 |zero=>
  intro k fk hk hf;obtain⟨fk,rfl⟩:=fkx fk;obtain rfl:k=s.length:=by omega
  rw [h0,zbf];rfl
 |succ n ih=>
  intro k fk hk hf;obtain⟨fk,rfl⟩:=fkx fk;rw [aok s k omg];cases h:p (at_ s k)
  ·rw [h1 fk k omg h];simp [afr,h]
  ·rw [h2 fk k omg h,afw,ih (k+1) fk omg omg];have e2:afr p (at_ s k::s.drop (k+1))=1+afr p (s.drop (k+1)):=by simp [afr,h,Nat.add_comm]
   rw [e2,Nat.add_assoc]
theorem clamp_int(i:Int)(n:Nat):min (max i 0) (n:Int)=((ajw i n:Nat):Int):=by unfold ajw;omega
theorem char_blank(fu:Nat)(c:UInt8):agk fu c=some (aaj c):=by
 show agk 0 c=_
 revert c;exact acq _ (by decide+kernel)
theorem ref_blank(fu:Nat)(c:UInt8):ahc fu c=some (aaj c):=by
 show ahc 0 c=_
 revert c;exact acq _ (by decide+kernel)
theorem char_control(fu:Nat)(c:UInt8):agt fu c=some (ale c):=by
 show agt 0 c=_
 revert c;exact acq _ (by decide+kernel)
theorem ref_control(fu:Nat)(c:UInt8):amx fu c=some (ale c):=by
 show amx 0 c=_
 revert c;exact acq _ (by decide+kernel)
theorem char_escaped(fu:Nat)(c:UInt8):ags fu c=some (apj c):=by
 show ags 0 c=_
 revert c;exact acq _ (by decide+kernel)
theorem blanks_eq(s:Str)(hs:s.length<=4194304)(i:Int):ajk FU s i=some ((aan aaj s i:Nat):Int):=by
 unfold ajk adu;have hc:=clampN_le i s.length;rw [clamp_int,skip_gen aaj s (aca FU s) ?_ ?_ ?_ (s.length-ajw i s.length) _ FU omg (by rw [afu];omega)]
 ·rfl
 ·intro fk;rw [acs,aba,if_neg omg];rfl
 ·intro fk k hk h;rw [acs,aba,if_pos omg,gok,char_blank,h];rfl
 ·intro fk k hk h;rw [acs,aba,if_pos omg,gok,char_blank,h,zaa,zaa,cond_true,gok]
theorem aky(s:Str)(hs:s.length<=4194304)(i:Int):adj FU s i=some ((aan aaj s i:Nat):Int):=by
 unfold adj;have hc:=clampN_le i s.length;rw [clamp_int,skip_gen aaj s (aiw FU s) ?_ ?_ ?_ (s.length-ajw i s.length) _ FU omg (by rw [afu];omega)]
 ·rfl
 ·intro fk;rw [ajp,afi,if_neg omg];rfl
 ·intro fk k hk h;rw [ajp,afi,if_pos omg,gok,ref_blank,h];rfl
 ·intro fk k hk h;rw [ajp,afi,if_pos omg,gok,ref_blank,h,zaa,zaa,cond_true,gok]
def rdw(p:UInt8->Bool)(l:Str):Str:=(l.reverse.dropWhile p).reverse
theorem rdw_cons(p:UInt8->Bool)(c:UInt8)(l:Str):rdw p (c::l)=if rdw p l=[]then(if p c then []else [c])else c::rdw p l:=by
 unfold rdw;rw [List.reverse_cons,List.dropWhile_append];cases h:l.reverse.dropWhile p with
 |nil=>cases hp:p c<;>simp [hp]
 |cons a t=>simp
theorem rdw_snoc(p:UInt8->Bool)(l:Str)(c:UInt8):rdw p (l++[c])=if p c then rdw p l else l++[c]:=by
 unfold rdw;rw [List.reverse_append,List.reverse_singleton,List.singleton_append,List.dropWhile_cons];split<;>simp
theorem rdw_comm(p:UInt8->Bool):∀l:Str,(rdw p l).dropWhile p=rdw p (l.dropWhile p)
 |[]=>rfl
 |c::l=>by
  have ih:=rdw_comm p l;cases hp:p c
  ·have e:List.dropWhile p (c::l)=c::l:=by simp [hp]
   rw [e,rdw_cons];split<;>simp [hp]
  ·have e:List.dropWhile p (c::l)=l.dropWhile p:=by simp [hp]
   rw [e,<-ih,rdw_cons];split
   ·rename_i h;simp [h,hp]
   ·simp [hp]
def alc(s:Str):Str:=rdw aaj (s.dropWhile aaj)
theorem blank_set:(fun c=>([32,9]:Str).contains c)=aaj:=by
 funext c;revert c;exact acq _ (by decide+kernel)
theorem trimS_eq(s:Str):Lib.trimS s [32,9]=alc s:=by
 unfold Lib.trimS zaY Lib.trimRightS alc;rw [blank_set];exact rdw_comm aaj s
theorem trim_eq(s:Str)(hs:s.length<=4194304):aqd FU s=some (alc s):=by
 unfold aqd;rw [gok,aac (by decide),trimS_eq]
theorem ate(p:UInt8->Bool):∀l:Str,l.drop (afr p l)=l.dropWhile p
 |[]=>rfl
 |c::l=>by
  have ih:=ate p l;cases hp:p c
  ·simp [afr,hp]
  ·simp [afr,hp,ih]
theorem skipL_zero(p:UInt8->Bool)(s:Str):aan p s 0=afr p s:=by
 have h0:ajw 0 s.length=0:=by unfold ajw;omega
 unfold aan;rw [h0];simp
theorem refTrim_lp(s:Str)(y:Int)(hs:(s.drop y.toNat).length<=4194304)(n:Nat):∀fk,n<=(s.drop y.toNat).length->n<fk->
  ∃m:Nat,m<=n/\alw FU s y fk (n:Int)=some (m:Int)/\(s.drop y.toNat).take m=rdw aaj ((s.drop y.toNat).take n):=by
 induction n with
 |zero=>
  intro fk hn hf;obtain⟨fk,rfl⟩:=fkx fk;exact⟨0,zah _,by rw [apy,akm,if_neg omg];rfl,rfl⟩
 |succ n ih=>
  intro fk hn hf;obtain⟨fk,rfl⟩:=fkx fk;have e:(((n+1:Nat):Int)-1)=(n:Int):=by omega
  rw [apy,akm,if_pos omg,e,gok,gok,ref_blank,gok,take_snoc _ n omg,rdw_snoc];cases h:aaj (at_ (s.drop y.toNat) (n:Int))
  ·exact⟨n+1,zah _,rfl,by simp [take_snoc _ n (show n<(s.drop y.toNat).length by omega)]⟩
  ·obtain⟨m,h1,h2,h3⟩:=ih fk omg omg;exact⟨m,by omega,h2,by simpa using h3⟩
theorem refTrim_eq(s:Str)(hs:s.length<=4194304):apc FU s=some (alc s):=by
 unfold apc;have hl:=adg aaj s 0;have hd:(s.drop (((aan aaj s 0:Nat):Int)).toNat).length<=4194304:=by rw [zao];omega
 obtain⟨m,h1,h2,h3⟩:=refTrim_lp s _ hd _ FU (zah _) (by rw [afu];omega);rw [aky s hs,zaa,gok,h2,zaa,gok];have e:((m:Nat):Int).toNat=m:=by omega
 rw [e,h3,List.take_length];have e2:(((aan aaj s 0:Nat):Int)).toNat=afr aaj s:=by rw [skipL_zero];omega
 rw [e2,ate];rfl
theorem rdw_len(p:UInt8->Bool)(l:Str):(rdw p l).length<=l.length:=by
 unfold rdw;have:=auo p l.reverse;simpa using this
theorem trimL_len(s:Str):(alc s).length<=s.length:=zaF (rdw_len _ _) (auo _ _)
def unqL:Str->Nat->Str->Str×Int×UInt8
 |[],k,_=>([],(k:Int),6)
 |[c],k,acc=>if c=34 then(acc,((k+1:Nat):Int),0)else if c=92 then([],((k+1:Nat):Int),6)else if ale c then([],(k:Int),5)else([],((k+1:Nat):Int),6)
 |c::d::r,k,acc=>
  if c=34 then(acc,((k+1:Nat):Int),0)
  else if c=92 then(if apj d then unqL r (k+2) (acc++[d])else([],(k:Int),5))
  else if ale c then([],(k:Int),5)else unqL (d::r) (k+1) (acc++[c])
theorem unqL_cons(c:UInt8)(l:Str)(k:Nat)(acc:Str):unqL (c::l) k acc=
  if c=34 then(acc,((k+1:Nat):Int),0)
  else if c=92 then(if l=[]then([],((k+1:Nat):Int),6)else if apj (at_ l 0)then unqL (l.drop 1) (k+2) (acc++[at_ l 0])else([],(k:Int),5))
  else if ale c then([],(k:Int),5)else unqL l (k+1) (acc++[c]):=by
 cases l with
 |nil=>simp [unqL]
 |cons d r=>simp [unqL,at_]
def unqP8(s:Str)(i:Int):Str×Int×UInt8:=
 if i<0\/(s.length:Int)<i then([],0,2)
 else if i=(s.length:Int)\/at_ s i≠34 then([],i,5)
 else unqL (s.drop (i.toNat+1)) (i.toNat+1) []
theorem at_drop1(s:Str)(k:Nat):at_ (s.drop k) 0=at_ s (k:Int):=by simp [at_]
theorem asz(s:Str)(k:Nat):s.drop k=[]↔s.length<=k:=by rw [List.drop_eq_nil_iff]
def unqFin(s:Str)(j:((Str×Int)⊕(Str×Int×UInt8))):Option (Str×Int×UInt8):=
 zaE (fun(v:(Str×Int))=>(if(s.length:Int)<=v.2 then some (([]:Str),(s.length:Int),(6:UInt8))else(gd (acd (v.2+(1:Int)))<|some (v.1,v.2+(1:Int),(0:UInt8))))) (fun q=>some q) j
theorem unq_lp(s:Str)(hs:s.length<=4194304)(n:Nat):∀(k fk:Nat) (acc:Str),s.length-k<=n->n<fk->k<=s.length->acc.length<=k->
  ((aia FU s fk acc (k:Int)).bind (unqFin s))=some (unqL (s.drop k) k acc):=by
 induction n with
 |zero=>
  intro k fk acc hn hf hk ha;obtain⟨fk,rfl⟩:=fkx fk;obtain rfl:k=s.length:=by omega
  rw [aiz,aet,if_neg omg,zbf,zaa];unfold unqFin;rw [zau,if_pos (by simp)];rfl
 |succ n ih=>
  intro k fk acc hn hf hk ha;obtain⟨fk,rfl⟩:=fkx fk;by_cases hl:k<s.length
  ·rw [aok s k hl,unqL_cons,aiz,aet,if_pos omg,gok];by_cases h1:at_ s (k:Int)=34
   ·rw [if_pos h1,if_pos h1,zaa];unfold unqFin;rw [zau,if_neg (by simp;omega),aac (ado _ (by simp;omega) (by simp;omega))];rfl
   ·rw [if_neg h1,if_neg h1];by_cases h2:at_ s (k:Int)=92
    ·rw [if_pos h2,if_pos h2,gok];by_cases h3:k+1=s.length
     ·rw [if_pos omg,if_pos ((asz s (k+1)).2 omg),zaa];unfold unqFin;rw [zbi,h3]
     ·rw [if_neg omg,if_neg (fun h=>h3 (by have:=(asz s (k+1)).1 h;omega)),gok,gok,char_escaped,zaa,at_drop1,afw];cases h4:apj (at_ s ((k+1:Nat):Int))
      ·rfl
      ·rw [zav,cond_false,if_pos rfl,gok,gok,gok,gok,zbr,afw,
        ih (k+1+1) fk _ omg omg omg (by simp;omega)]
    ·rw [if_neg h2,if_neg h2,char_control,zaa];cases h4:ale (at_ s (k:Int))
     ·rw [cond_false,if_neg (by decide),gok,gok,gok,afw,ih (k+1) fk _ omg omg omg (by simp;omega)]
     ·rfl
  ·obtain rfl:k=s.length:=by omega
   rw [aiz,aet,if_neg omg,zbf,zaa];unfold unqFin;rw [zau,if_pos (by simp)];rfl
theorem unquote_eq(s:Str)(hs:s.length<=4194304)(i:Int):akq FU s i=some (unqP8 s i):=by
 unfold akq unqP8;by_cases h1:i<0
 ·rw [if_pos h1,if_pos (show i<0\/(s.length:Int)<i from .inl h1)];rfl
 ·rw [if_neg h1,zaa];by_cases h2:(s.length:Int)<i
  ·rw [decide_eq_true h2,if_pos (show i<0\/(s.length:Int)<i from .inr h2)];rfl
  ·rw [decide_eq_false h2,cond_false,if_neg (show¬(i<0\/(s.length:Int)<i)by omega)];by_cases h3:i=(s.length:Int)
   ·rw [if_pos h3,if_pos (show i=(s.length:Int)\/at_ s i≠34 from .inl h3)];rfl
   ·rw [if_neg h3,gok,zaa];by_cases h4:at_ s i=34
    ·rw [decide_eq_true h4,zav,cond_false,if_neg (by simp [h3,h4]),gok];obtain⟨k,rfl⟩:∃k:Nat,i=(k:Int):=⟨i.toNat,by omega⟩
     exact unq_lp s hs s.length (k+1) FU [] omg (by rw [afu];omega) omg (by simp)
    ·rw [decide_eq_false h4,if_pos (show i=(s.length:Int)\/at_ s i≠34 from .inr h4)];rfl
end Go.Wk
