/-
  The law MessageKeeps holds for a message and texts of at most 1048576 letters together (part 3 of 8).
-/
import Derived.Test.YtfkbagnbkppmjaaGreatDoorMq2
import Derived.Lib.Overlaps
import Derived.Lib.Join
set_option linter.constructorNameAsVariable false
set_option linter.unusedVariables false
set_option linter.unusedSimpArgs false
set_option linter.constructorNameAsVariable false
namespace Go.Ce
open Go.Wk
open List renaming mem_cons_of_mem -> zat, mem_cons_self -> zav
open Nat renaming le_trans -> zau, lt_of_lt_of_le -> zal
open Option renaming map_some -> zaJ, rec -> zaj
def ro(E:En)(m:M):Option (Option Nat):=m.m.map fun x=>x.map fun l=>(E l).1
def dl(E:En)(D:Option Nat):List Deferred:=match D with|none=>[]|some r=>[Go.Wk.mark (E r).1]
def aif(E:En)(m:M)(D:Option Nat):Md:=⟨m.n,dl E D,ro E m⟩
def Mok(k:Nat)(m:M):Prop:=∀l,m.m=some (some l)->l<k
def Dok(k:Nat)(D:Option Nat):Prop:=∀r,D=some r->r<k
theorem ro_ext{k:Nat}{E E':En}(h:Ag k E E'){m:M}(hm:Mok k m):ro E' m=ro E m:=by
 unfold ro;obtain⟨n,mm⟩:=m;cases mm with
 |none=>rfl
 |some x=>cases x with
  |none=>rfl
  |some l=>simp only [zaJ];rw [h l (hm l rfl)]
theorem dl_ext{k:Nat}{E E':En}(h:Ag k E E'){D:Option Nat}(hd:Dok k D):dl E' D=dl E D:=by
 cases D with
 |none=>rfl
 |some r=>simp only [dl];rw [h r (hd r rfl)]
theorem mdOf_ext{k:Nat}{E E':En}(h:Ag k E E'){m:M}(hm:Mok k m){D:Option Nat}(hd:Dok k D):aif E' m D=aif E m D:=by
 unfold aif;rw [ro_ext h hm,dl_ext h hd]
theorem Mok.up{k k':Nat}(h:k<=k'){m:M}(hm:Mok k m):Mok k' m:=fun l e=>zal (hm l e) h
theorem Dok.up{k k':Nat}(h:k<=k'){D:Option Nat}(hm:Dok k D):Dok k' D:=fun l e=>zal (hm l e) h
def exr:Ex->Exit
 |.nm=>.normal
 |.rt=>.ret
 |.xt id=>.exit id
def Ovl(P:Program)(k:Nat):Prop:=∃fn tS tR e sz,P.funcs[k]? =some fn/\fn.body=none/\Extern.findNext fn=none/\Extern.find fn=some (Extern.SlicesOverlaps.overlaps #[tS,tS] #[tR])/\P.underlying tS=some (.slice e)/\sval P (sizeOf e)=some sz
structure Cok (C:Cx) (Gp:World->Prop):Prop where
 gp:∀{w0 w:World} {L:List Res},Gp w0->Hp w0 [] L w->Gp w
 g:∀{w:World},Gp w->Gok C.G w
 ng : ∀ (f : Nat) (fn : Func), C.P.funcs[f]? = some fn -> (fn.name == "runtime.NumGoroutine") = false
 mo:C.P.follows .mixedOrders=true
 ov:∀k,C.V k=true->Ovl C.P k
structure At (C:Cx) (Gp:World->Prop) (m:M) (S:T) (w0:World) (E:En) (w:World):Prop where
 inv:Inv w0 E S.H w
 fok:Fok S.H.nx S.F
 gp:Gp w0
 m:Mok S.H.nx m
 d:Dok S.H.nx S.D
theorem At.sd{C:Cx}{Gp:World->Prop}(hC:Cok C Gp){m:M}{S:T}{w0:World}{E:En}{w:World}(h:At C Gp m S w0 E w):Sd C m S (aif E m S.D) w0 E w:=⟨rfl,h.inv,h.fok,hC.g h.gp⟩
def aew(C:Cx)(Gp:World->Prop)(call:List SV->Hs->Option (SV×Hs))(k:Nat):Prop:=
 ∀vs H v H',call vs H=some (v,H')->∀w0 E w,Gp w0->Inv w0 E H w->(∀x∈vs,x.ok H.nx)->
  Enters C.P k/\CR C.P k (vs.map (SV.re E)) w fun V w'=>∃E',Ag H.nx E E'/\H.nx<=H'.nx/\Inv w0 E' H' w'/\v.ok H'.nx/\V=v.re E'
def Then(C:Cx)(Gp:World->Prop)(m:M)(S S':T)(w0:World)(E:En)(Q:En->World->Prop):Prop:=
 ∀E' w',Ag S.H.nx E E'->S.H.nx<=S'.H.nx->At C Gp m S' w0 E' w'->Q E' w'
def aiw(C:Cx)(Gp:World->Prop)(run:M->T->Option (Ex×T))(c:Code):Prop:=
 ∀m S e S',run m S=some (e,S')->∀w0 E w Q,At C Gp m S w0 E w->NoP Q->
  Then C Gp m S S' w0 E (fun E' w'=>Q (exr e) (fr (aif E' m S'.D) (rF E' S'.F)) w')->Go.Wk.C C.P (aif E m S.D) Q c (rF E S.F) w
structure KsOk (C:Cx) (Gp:World->Prop) (K:Ks):Prop where
 call:∀k,aew C Gp (K.call k) k
 run:∀c,aiw C Gp (fun m S=>K.run m c S) c
section
variable {C : Cx} {Gp : World -> Prop} {m : M} {S S' : T} {w0 w : World} {E E' : En} {K : Ks} {H : Hs}
theorem evL_ok{n:Md}(h:Sd C m S n w0 E w):∀{l:List Operand} {vs:List SV},evL m S l=some vs->l.map (evn n (rF E S.F))=vs.map (SV.re E)/\∀x∈vs,x.ok S.H.nx
 |[],vs,hv=>by
  have e:[]=vs:=Option.some.inj hv;subst e;simp
 |x::l,vs,hv=>by
  obtain⟨v,h1,hv⟩:=aab hv;obtain⟨q,h2,hv⟩:=aab hv;cases hv
  obtain⟨h3,h4⟩:=aiz h h1;obtain⟨h5,h6⟩:=evL_ok h (show evL m S l=some q from h2);refine⟨by simp [h3,h5],fun y hy=> ?_⟩
  rcases List.mem_cons.1 hy with rfl|hy
  ·exact h4
  ·exact h6 y hy
theorem ptrs_ok{k:Nat}(E:En):∀{l:List Nat},(∀i∈l,i<k)->(ptrs l).map (SV.re E)=l.map (fun i=>Value.pointer (some ⟨(E i).1,0,none⟩))/\∀x∈ptrs l,x.ok k
 |[],_=>⟨rfl,fun x hx=>by cases hx⟩
 |i::l,h=>by
  obtain⟨h1,h2⟩:=ptrs_ok (k:=k) E (l:=l) fun j hj=>h j (zat _ hj)
  refine⟨?_,fun x hx=> ?_⟩
  ·show(SV.c (.p i 0)).re E::(ptrs l).map (SV.re E)=_
   rw [h1];rfl
  ·rcases List.mem_cons.1 (show x∈SV.c (.p i 0)::ptrs l from hx)with rfl|hx
   ·exact h i (zav)
   ·exact h2 x hx
theorem at_set(h:At C Gp m S w0 E w){H':Hs}{w':World}(ha:Ag S.H.nx E E')(hn:S.H.nx<=H'.nx)(hi:Inv w0 E' H' w')(d:Nat){v:SV}(hv:v.ok H'.nx):At C Gp m ⟨S.F.set d v,H',S.D⟩ w0 E' w':=
 ⟨hi,(Fok.up hn h.fok).set d hv,h.gp,h.m.up hn,h.d.up hn⟩
theorem at_same(h:At C Gp m S w0 E w){H':Hs}{w':World}(ha:Ag S.H.nx E E')(hn:S.H.nx<=H'.nx)(hi:Inv w0 E' H' w'):At C Gp m ⟨S.F,H',S.D⟩ w0 E' w':=
 ⟨hi,Fok.up hn h.fok,h.gp,h.m.up hn,h.d.up hn⟩
def Wd(C:Cx)(Gp:World->Prop)(m:M)(ops:Array Oper)(S S':T)(w0:World)(E:En)(w:World)(o:Oper):Prop:=
 ∀(rest:List Oper) (Q:Exit->Act->World->Prop),Then C Gp m S S' w0 E (fun E' w'=>Go.Wk.W C.P (aif E m S.D) ops Q rest (rF E' S'.F) w')->Go.Wk.W C.P (aif E m S.D) ops Q (o::rest) (rF E S.F) w
theorem w_run0{P:Program}{n:Md}{ops:Array Oper}{Q:Exit->Act->World->Prop}{F:Nat->Value}{o:Oper}{rest:List Oper}{v:Value}{w':World}(hg:o.guard=none)(hd:o.dst=none)
  (hrun:(execOp (evn n F) o).run P w=.ok (.value v) w') (h:Go.Wk.W P n ops Q rest F w'):Go.Wk.W P n ops Q (o::rest) F w:=by
 obtain⟨k,D,ro⟩:=n;unfold Go.Wk.W WR at h⊢;cases ro with
 |none=>
  refine wpList_plain hg fun K hK=> ?_
  unfold Oper.wp;rw [afa,hrun,Oper.upon_value,hd];exact hK _ _ h
 |some r=>
  refine wpListIn_plain hg fun K hK=>⟨ajj, ?_⟩
  rw [afa,ajg _ hrun (fun d e=>by cases e),hrun,Oper.uponIn_value,hd];exact hK _ _ h
theorem opO_wd(hC:Cok C Gp)(h:At C Gp m S w0 E w){ops:Array Oper}{o:Oper}(hg:o.guard=none)(hv:opO C m S o=some S'):Wd C Gp m ops S S' w0 E w o:=by
 intro rest Q hk;obtain⟨r,h1,hv⟩:=aab hv;obtain⟨E',w',g1,g2,g3,g4,g5⟩:=opW_ok (h.sd hC) h1;obtain⟨r1,H'⟩:=r;cases r1 with
 |none=>
  obtain⟨h2,hv⟩:=aac (show bi o.dst.isNone (some (⟨S.F,H',S.D⟩:T)) none=some S' from hv);cases hv
  have hd:o.dst=none:=by simpa using h2
  refine w_skip hg hd g5 ?_;have hq:Go.Wk.W C.P (aif E m S.D) ops Q rest (rF E' S.F) w':=hk E' w' g1 g2 (at_same h g1 g2 g3);rw [rF_ext g1 h.fok]at hq;exact hq
 |some v=>
  cases h2:o.dst with
  |none=>
   have hv:(zaj (motive:=fun _=>Option T) (some ⟨S.F,H',S.D⟩) (fun d=>some ⟨S.F.set d v,H',S.D⟩) o.dst)=some S':=hv;rw [h2]at hv;obtain rfl:(⟨S.F,H',S.D⟩:T)=S':=Option.some.inj hv;refine w_run0 hg h2 g5 ?_;have hq:Go.Wk.W C.P (aif E m S.D) ops Q rest (rF E' S.F) w':=hk E' w' g1 g2 (at_same h g1 g2 g3);rw [rF_ext g1 h.fok]at hq;exact hq
  |some d=>
  have hv:(zaj (motive:=fun _=>Option T) (some ⟨S.F,H',S.D⟩) (fun d=>some ⟨S.F.set d v,H',S.D⟩) o.dst)=some S':=hv;rw [h2]at hv;obtain rfl:(⟨S.F.set d v,H',S.D⟩:T)=S':=Option.some.inj hv;refine abn hg h2 g5 ?_;have hq:Go.Wk.W C.P (aif E m S.D) ops Q rest (rF E' (S.F.set d v)) w':=hk E' w' g1 g2 (at_set h g1 g2 g3 d g4);rw [rF_set,rF_ext g1 h.fok]at hq;exact hq
theorem gok_call{f:Operand}{args:Array Operand}{o:Oper}(hc:isCall o.op=some (f,args)):∃ats,o.op=.call ⟨.value f,args,ats⟩:=by
 obtain⟨d,op,ty,pos,after,gd⟩:=o;cases op with
 |call c=>
  obtain⟨cl,azq,ts⟩:=c;cases cl with
  |value g=>cases hc;exact⟨ts,rfl⟩
  |_=>cases hc
 |_=>cases hc
theorem hbL_ok{b:HB}{q:Bool×Lq}(h:b.asL=some q):b=.lp q.1 q.2.1 q.2.2.1 q.2.2.2.1 q.2.2.2.2.1 q.2.2.2.2.2.1 q.2.2.2.2.2.2:=by
 cases b<;>first|(cases h;rfl)|cases h
theorem lpAt_ok{H:Hs}{i:Nat}{busy:Bool}{q:Lq}(h:lpAt H i busy=some q):H.t.get i=some (.lp busy q.1 q.2.1 q.2.2.1 q.2.2.2.1 q.2.2.2.2.1 q.2.2.2.2.2):=by
 obtain⟨b,h1,h⟩:=aab h;obtain⟨p,h2,h⟩:=aab h;obtain⟨h3,h⟩:=aac h;cases h
 rw [hbL_ok h2]at h1;have hb:p.1=busy:=by
  rw [aaz,inot_eq]at h3;cases busy<;>cases hp:p.1<;>simp [hp]at h3⊢
 rw [hb]at h1;exact h1
theorem updP_ok{k:Nat}:∀{ps:List Nat} {F F1:Tr SV} {vs:List SV},updP F ps vs=some F1->Fok k F->(∀x∈vs,x.ok k)->ps.length=vs.length/\rF E F1=updL (rF E F) ps (vs.map (SV.re E))/\Fok k F1
 |[],F,F1,vs,h,hF,hv=>by
  obtain⟨h1,h⟩:=aac (show bi vs.isEmpty (some F) none=some F1 from h);cases h
  cases vs with
  |nil=>exact⟨rfl,rfl,hF⟩
  |cons v vs=>cases h1
 |p::ps,F,F1,[],h,hF,hv=>by cases h
 |p::ps,F,F1,v::vs,h,hF,hv=>by
  obtain⟨h1,h2,h3⟩:=updP_ok (show updP (F.set p v) ps vs=some F1 from h) (hF.set p (hv v zav)) fun x hx=>hv x (zat _ hx)
  refine⟨by simp [h1], ?_,h3⟩
  rw [h2,rF_set];rfl
theorem lp_get(h:Inv w0 E H w){i:Nat}{busy:Bool}{q:Lq}(hq:lpAt H i busy=some q):i<H.nx/\Fok H.nx q.2.2.2.2.2/\∃rc:Loop,rc.assign=q.2.2.2.1/\rc.body=q.2.2.2.2.1/\rc.params=q.2.2.1.toArray/\rc.tmps=(fr ⟨q.2.1,[],some none⟩ (rF E q.2.2.2.2.2)).tmps/\
  (match busy with
  |false=>Hp w0 [] ((afe E H).set i (lrec (E i).1 q.1 rc)) w
  |true=>Hp w0 [] ((afe E H).set i (lbusy (E i).1 rc)) w):=by
 have h1:=lpAt_ok hq;obtain⟨rc,r1,r2,r3,r4,r5⟩:=(h.hp.res _ (List.mem_of_getElem? (h.at h1))).1;refine⟨h.lt i _ h1,h.ok i _ h1,rc,r1,r2,r3,r4, ?_⟩
 cases busy with
 |false=>exact hp_weak h.hp (h.at h1) rfl r5
 |true=>exact hp_weak h.hp (h.at h1) rfl r5
def lres:Bool->Nat->Nat->Loop->Res
 |false,l,j,rc=>lrec l j rc
 |true,l,_,rc=>lbusy l rc
theorem lp_put(h:Inv w0 E H w){i:Nat}{busy b':Bool}{j:Nat}{q:Lq}(hq:lpAt H i busy=some q){rc:Loop}{w':World}(r1:rc.assign=q.2.2.2.1)(r2:rc.body=q.2.2.2.2.1)(r3:rc.params=q.2.2.1.toArray)(r4:rc.tmps=(fr ⟨q.2.1,[],some none⟩ (rF E q.2.2.2.2.2)).tmps)
  {L:List Res} (hL:L=(afe E H).set i (lres b' (E i).1 j rc)) (hp:Hp w0 [] L w'):Inv w0 E (lpPut q b' j H i) w':=by
 have h1:=lpAt_ok hq;have hi:=h.lt i _ h1;refine h.upd hi (show Fok H.nx q.2.2.2.2.2 from h.ok i _ h1) ?_;subst hL;have hlen:i<(afe E H).length:=by rw [ahc];exact hi
 have hk:=List.getElem?_set_self (a:=lres b' (E i).1 j rc) hlen
 have:=hp_weak (r':=resOf E i (.lp b' j q.2.1 q.2.2.1 q.2.2.2.1 q.2.2.2.2.1 q.2.2.2.2.2)) hp hk (by cases b'<;>rfl) (by
  have hr:=(hp.res _ (List.mem_of_getElem? hk)).1;cases b' with
  |false=>exact⟨rc,r1,r2,r3,r4,hr⟩
  |true=>exact⟨rc,r1,r2,r3,r4,hr⟩)
 rw [List.set_set]at this;exact this
def Post(H H':Hs)(w0:World)(E:En)(v:SV)(V:Value)(w':World):Prop:=∃E',Ag H.nx E E'/\H.nx<=H'.nx/\Inv w0 E' H' w'/\v.ok H'.nx/\V=v.re E'
theorem np_asg{P:Program}{l:Nat}{bd:Code}{R:Value->World->Prop}:NoP (AsgQ P l bd R):=by
 intro c a w h;unfold AsgQ at h;exact h
theorem np_rnd{P:Program}{l:Nat}{R:Value->World->Prop}:NoP (RndQ P l R):=by
 intro c a w h;unfold RndQ at h;exact h
theorem yield_ok{run:Ev}(hr:∀c,aiw C Gp (fun m S=>run m c S) c){i:Nat}{vs:List SV}{H H':Hs}{v:SV}(hy:yieldE run i vs H=some (v,H'))(hg:Gp w0)(h:Inv w0 E H w)(hvs:∀x∈vs,x.ok H.nx):
  YR C.P (E i).1 (vs.map (SV.re E)) w (Post H H' w0 E v):=by
 obtain⟨q,h1,hy⟩:=aab hy;obtain⟨h2,hy⟩:=aac hy;obtain⟨F1,h3,hy⟩:=aab hy;obtain⟨⟨x,S1⟩,h4,hy⟩:=aab hy;rw [aak]at h2;obtain⟨hi,hF,rc,r1,r2,r3,r4,r5⟩:=lp_get h h1;rw [h2]at r5;obtain⟨u1,u2,u3⟩:=updP_ok (E:=E) h3 hF hvs;have hlen:i<(afe E H).length:=by rw [ahc];exact hi
 refine yr_intro r5 i (List.getElem?_set_self hlen) r1 r2 r3 r4 (by rw [u1];simp) ?_;rw [<-u2];cases x with
 |rt=>cases hy
 |xt id=>cases hy
 |nm=>
 have hy2:yield2 run i q.2.1 q.2.2.2.2.1 S1=some (v,H'):=hy;refine hr q.2.2.2.1 ⟨q.2.1,some (some i)⟩ ⟨F1,H,none⟩ .nm S1 h4 w0 E w _ ⟨h,u3,hg,fun l e=>(by cases e;exact hi),fun r e=>by cases e⟩ np_asg ?_;intro E1 w1 a1 n1 at1;obtain⟨q2,h5,hy2⟩:=aab hy2;obtain⟨h6,hy2⟩:=aac hy2;obtain⟨h7,hy2⟩:=aac hy2;obtain⟨⟨x2,S2⟩,h8,hy3⟩:=aab hy2;rw [aak]at h6;have hD:S1.D=none:=by simpa using h7
 obtain⟨hi1,hF1,rc1,s1,s2,s3,s4,s5⟩:=lp_get at1.inv h5;rw [h6]at s5;have hlen1:i<(afe E1 S1.H).length:=by rw [ahc];exact hi1
 have ei:(E1 i).1=(E i).1:=by rw [a1 i hi]
 rw [hD];show AsgQ C.P (E i).1 q.2.2.2.2.1 _ .normal (fr ⟨q.2.1,[],some (some (E1 i).1)⟩ (rF E1 S1.F)) w1;rw [ei];rw [ei]at s5;refine asg_next s5 i (List.getElem?_set_self hlen1) ?_;intro w2 hp2;rw [List.set_set]at hp2;have inv2:Inv w0 E1 (lpPut q2 true 0 S1.H i) w2:=lp_put at1.inv h5 (b':=true) (j:=0) s1 s2 s3 s4 (by rw [ei];rfl) hp2;have key:=hr q.2.2.2.2.1 ⟨q.2.1,some (some i)⟩ ⟨S1.F,lpPut q2 true 0 S1.H i,none⟩ x2 S2 h8 w0 E1 w2 (RndQ C.P (E i).1 (Post H H' w0 E v)) ⟨inv2,at1.fok,hg,fun l e=>(by cases e;exact hi1),fun r e=>by cases e⟩ np_rnd ?_
 ·have e1:aif E1 ⟨q.2.1,some (some i)⟩ none=⟨q.2.1,[],some (some (E i).1)⟩:=by rw [<-ei];rfl
  rw [e1]at key;exact key
 intro E2 w3 a2 n2 at2;obtain⟨q3,h9,hy3⟩:=aab hy3;obtain⟨h10,hy3⟩:=aac hy3;cases hy3
 have hD2:S2.D=none:=by simpa using h10
 obtain⟨hi2,hF2,rc2,t1,t2,t3,t4,t5⟩:=lp_get at2.inv h9;have hlen2:i<(afe E2 S2.H).length:=by rw [ahc];exact hi2
 have ei2:(E2 i).1=(E i).1:=by rw [a2 i hi1,ei]
 have hag:Ag H.nx E E2:=a1.trans a2 n1;have hnx:H.nx<=S2.H.nx:=zau n1 n2;rw [hD2];show RndQ C.P (E i).1 _ (exr x2) (fr ⟨q.2.1,[],some (some (E2 i).1)⟩ (rF E2 S2.F)) w3;rw [ei2];simp only at t5;rw [ei2]at t5;have fin:∀(j:Nat) (w':World),Hp w0 [] (((afe E2 S2.H).set i (lbusy (E i).1 rc2)).set i (lrec (E i).1 j rc2)) w'->Inv w0 E2 (lpPut q3 false j S2.H i) w':=by
  intro j w' hp;rw [List.set_set]at hp;exact lp_put at2.inv h9 (b':=false) (j:=j) t1 t2 t3 t4 (by rw [ei2];rfl) hp
 cases x2 with
 |nm=>exact rnd_normal t5 i (List.getElem?_set_self hlen2) fun w' hp=>⟨E2,hag,hnx,fin 0 w' hp,trivial,rfl⟩
 |rt=>exact rnd_ret t5 i (List.getElem?_set_self hlen2) fun w' hp=>⟨E2,hag,hnx,fin 1 w' hp,trivial,rfl⟩
 |xt id=>exact rnd_exit t5 i (List.getElem?_set_self hlen2) fun w' hp=>⟨E2,hag,hnx,fin (id+2) w' hp,trivial,rfl⟩
end
open Go.Wk
open List renaming map_append -> zbc
open Nat renaming beq -> zai, ble -> zam, blt -> zay, le_refl -> zab, le_trans -> zau
open Option renaming rec -> zaj
section
variable {C : Cx} {Gp : World -> Prop} {m : M} {S S' : T} {w0 w : World} {E E' : En} {K : Ks} {H : Hs}
def updO(F:Nat->Value):Option Nat->Value->Nat->Value
 |none,_=>F
 |some d,V=>Wk.upd F d V
theorem dset_rF(E:En)(F:Tr SV)(d:Option Nat)(v:SV):rF E (dset F d v)=updO (rF E F) d (v.re E):=by
 cases d with
 |none=>rfl
 |some d=>exact rF_set E F d v
theorem at_dset(h:At C Gp m S w0 E w){H':Hs}{w':World}(ha:Ag S.H.nx E E')(hn:S.H.nx<=H'.nx)(hi:Inv w0 E' H' w')(d:Option Nat){v:SV}(hv:v.ok H'.nx):At C Gp m ⟨dset S.F d v,H',S.D⟩ w0 E' w':=by
 cases d with
 |none=>exact at_same h ha hn hi
 |some d=>exact at_set h ha hn hi d hv
theorem call_wd(hC:Cok C Gp)(hK:KsOk C Gp K)(h:At C Gp m S w0 E w){ops:Array Oper}{o:Oper}{f:Operand}{args:Array Operand}(hg:o.guard=none)(hc:isCall o.op=some (f,args))
  {v:SV} {H':Hs} (hv:callE K m S f args o.dst.isSome=some (v,H')):Wd C Gp m ops S ⟨dset S.F o.dst v,H',S.D⟩ w0 E w o:=by
 intro rest Q hk;obtain⟨ats,hop⟩:=gok_call hc;obtain⟨d,op,ty,pos,after,gd⟩:=o;simp only at hop hg;subst hop;subst hg;obtain⟨vs,h1,hv⟩:=aab hv;obtain⟨g,h2,hv⟩:=aab hv;obtain⟨h3,h4⟩:=evL_ok (h.sd hC) h1;obtain⟨h5,h6⟩:=ach (h.sd hC) h2;have hargs:args.map (evn (aif E m S.D) (rF E S.F))=(vs.map (SV.re E)).toArray:=by
  rw [<-h3];exact Array.toList_inj.1 (by rw [Array.toList_map])
 have go:∀(V:Value) (w':World),Post S.H H' w0 E v V w'->Go.Wk.W C.P (aif E m S.D) ops Q rest (updO (rF E S.F) d V) w':=by
  rintro V w' ⟨E',g1,g2,g3,g4,rfl⟩
  have hq:Go.Wk.W C.P (aif E m S.D) ops Q rest (rF E' (dset S.F d v)) w':=hk E' w' g1 g2 (at_dset h g1 g2 g3 d g4);rw [dset_rF,rF_ext g1 h.fok]at hq;exact hq
 cases g with
 |fn k cs=>
  have hv':K.call k (lapp vs (ptrs cs)) S.H=some (v,H'):=hv;obtain⟨p1,p2⟩:=ptrs_ok (k:=S.H.nx) E (l:=cs) h6;rw [air]at hv';obtain⟨hE,hcr⟩:=hK.call k _ _ _ _ hv' w0 E w h.gp h.inv (fun x hx=>by
   rcases List.mem_append.1 hx with hx|hx
   ·exact h4 x hx
   ·exact p2 x hx)
  have ha: #[]++args.map (evn (aif E m S.D) (rF E S.F))++(cs.map fun i=>Value.pointer (some ⟨(E i).1,0,none⟩)).toArray=((vs++ptrs cs).map (SV.re E)).toArray:=by
   rw [hargs,zbc,p1];simp
  cases d with
  |none=>exact w_call0 k _ _ _ hE h5 ha hcr fun V w' hp=>go V w' hp
  |some d=>exact abo k _ _ _ hE h5 ha hcr fun V w' hp=>go V w' hp
 |y i=>
  obtain⟨hds,hv'⟩:=aac (show bi d.isSome (bi m.m.isSome (yieldE K.run i vs S.H) none) none=some (v,H')from hv);obtain⟨h7,hv'⟩:=aac hv';have hy:=yield_ok hK.run hv' h.gp h.inv h4;obtain⟨mn,mm⟩:=m;cases mm with
  |none=>cases h7
  |some mm=>
   have ha: #[]++args.map (evn (aif E ⟨mn,some mm⟩ S.D) (rF E S.F))++ #[]=(vs.map (SV.re E)).toArray:=by rw [hargs];simp
   cases d with
   |some d=>exact w_yield (E i).1 _ _ h5 ha hy fun V w' hp=>go V w' hp
   |none=>cases hds
 |_=>cases hv
theorem asF_ok{x:SC}{k:Nat}(h:x.asF=some k):x=.fn k []:=by
 cases x with
 |fn f l=>
  obtain⟨h1,h2⟩:=aac (show bi l.isEmpty (some f) none=some k from h);cases h2
  cases l with
  |nil=>rfl
  |cons a l=>cases h1
 |_=>cases h
theorem owns_ne(h:Inv w0 E H w){i j:Nat}{b b':HB}(hi:H.t.get i=some b)(hj:H.t.get j=some b')(hij:i≠j){x:Nat}(h1:(resOf E i b).own=some x):(resOf E j b').own≠some x:=by
 have hp:=h.hp.sep;have e1:=h.at hi;have e2:=h.at hj;have l1:=(List.getElem?_eq_some_iff.1 e1).1;have l2:=(List.getElem?_eq_some_iff.1 e2).1;rw [List.pairwise_iff_getElem]at hp;rw [List.getElem?_eq_getElem l1]at e1;rw [List.getElem?_eq_getElem l2]at e2;have e1:=Option.some.inj e1;have e2:=Option.some.inj e2;rcases Nat.lt_or_gt_of_ne hij with hlt|hlt
 ·have:=hp i j l1 l2 hlt x
  rw [e1,e2]at this;exact this h1
 ·have:=hp j i l2 l1 hlt x
  rw [e1,e2]at this;exact fun h2=>this h2 h1
theorem ovl_run(hC:Cok C Gp)(h:At C Gp m S w0 E w){o:Oper}{f:Operand}{args:Array Operand}{v:SV}(hc:isCall o.op=some (f,args))(hv:ovlE C m S f args=some v):
  (execOp (evn (aif E m S.D) (rF E S.F)) o).run C.P w=.ok (.value (v.re E)) w/\v.ok S.H.nx:=by
 have hsd:=h.sd hC;obtain⟨ats,hop⟩:=gok_call hc;unfold ovlE at hv;split at hv
 ·rename_i x y hxy;obtain rfl:=aja hxy;obtain⟨g,h1,hv⟩:=aab hv;obtain⟨k,h2,hv⟩:=aab hv;obtain⟨h3,hv⟩:=aac hv;obtain⟨a,h4,hv⟩:=aab hv;obtain⟨b,h5,hw⟩:=aab hv;clear hv;obtain rfl:=asF_ok h2;have hf:evn (aif E m S.D) (rF E S.F) f=.func (.func k) #[] #[]:=(ach hsd h1).1;have hx:=(ach hsd h4).1;have hy:=(ach hsd h5).1;obtain⟨fn,tS,tR,e,sz,f1,f2,f3,f4,f5,f6⟩:=hC.ov k h3;have hng:=hC.ng k fn f1;obtain⟨i,h6,hw1⟩:=aab hw;clear hw;obtain⟨base,nn,c,rfl⟩:=asL_ok h6;have hz:∀w,(sizeOf e).run C.P w=.ok sz w:=fun w=>ajp f6 w
  have key:(Extern.SlicesOverlaps.overlaps #[tS,tS] #[tR] #[(SC.sl i base nn c).re E,b.re E]).run C.P w=.ok (.bool false) w->v=.c (.b false)->(execOp (evn (aif E m S.D) (rF E S.F)) o).run C.P w=.ok (.value (v.re E)) w/\v.ok S.H.nx:=by
   rintro hr rfl
   refine⟨?_,trivial⟩
   unfold execOp;rw [hop];have hrf:∀t,(resolve (evn (aif E m S.D) (rF E S.F)) ⟨.value f, #[x,y],ats⟩ t)=Deferred.ofValue (.func (.func k) #[] #[]) #[(SC.sl i base nn c).re E,b.re E]:=by
    intro t;simp [resolve,hf,hx,hy]
   simp only [hrf];have hng' : ¬ fn.name = "runtime.NumGoroutine" := by simpa using hng
   generalize(SC.sl i base nn c).re E=X at hr
   generalize b.re E=Y at hr;have e1:SV.re E (.c (.b false))=.bool false:=rfl;simp [Deferred.ofValue,invoke,callFunc,f1,hng',f2,f3,f4,hr,e1]
  cases hb:b.asL with
  |none=>
   rw [hb]at hw1;obtain⟨h7,hw1⟩:=aac (show bi b.isZ (some (SV.c (.b false))) none=some v from hw1);cases hw1
   cases b with
   |z j base' dd off=>
    refine key ?_ rfl
    show(Extern.SlicesOverlaps.overlaps #[tS,tS] #[tR] #[.slice (some ⟨(E i).1,base,none⟩) nn (c.re E i),.slice (some ⟨(E j).1,if(E j).2-off=0 then base' else base'+dd,none⟩) 0 ((E j).2-off)]).run C.P w=.ok (.bool false) w
    generalize(⟨(E i).1,base,none⟩:Addr)=a1
    generalize(⟨(E j).1,if(E j).2-off=0 then base' else base'+dd,none⟩:Addr)=b1
    change Sem.run C.P (α:=Value) (do
     let some t := (#[tS, tS] : Array TypeId)[0]? | stuck "slices.overlaps: no parameter types"
     let .slice elem <- underlying t | stuck "slices.overlaps: slice type expected"
     let size<-sizeOf elem
     match(some a1:Option Addr),(some b1:Option Addr)with
     |some a,some b=>
      if nn=0\/0=0\/size=0 then pure (Value.bool false)
      else if a.block !=b.block&&(<-frozen a)&&(<-frozen b)then unsupported .addressObserved
      else do
       if a.block !=b.block then do
        noView a;noView b
        if <- mayBeOne a b then return Value.bool ((<- choose (.extern "sameAddr.stringBytes" 2)) == 1)
       pure (Value.bool (a.block==b.block&&a.off<b.off+0*size&&b.off<a.off+nn*size))
     |_,_=>pure (Value.bool false)) w=_
    simp [run_underlying f5,hz]
   |_=>cases h7
  |some j=>
   rw [hb]at hw1;obtain⟨base',n',c',rfl⟩:=asL_ok hb;have hw1:bi (zai i j) none (ob (S.H.t.get i) fun p=>ob p.asC fun q=>bi (Mo.rec true (fun _ _=>false) false false q.2.1) (ob (S.H.t.get j) fun p'=>ob p'.asC fun q'=>bi (zam 1 (aid q'.2.2)) (some (SV.c (.b false))) none) none)=some v:=hw1;rw [aaz]at hw1;split at hw1
   ·cases hw1
   rename_i hij;rw [aak]at hij;obtain⟨p,h8,hw1⟩:=aab hw1;obtain⟨q,h9,hw1⟩:=aab hw1;obtain⟨h10,hw1⟩:=aac hw1;obtain⟨p',h11,hw1⟩:=aab hw1;obtain⟨q',h12,hw1⟩:=aab hw1;obtain⟨h13,hw1⟩:=aac hw1;have hfin:v=.c (.b false):=(Option.some.inj hw1).symm;rw [aaj,abm]at h13;obtain⟨t1,md,xs⟩:=q;obtain⟨t2,md2,ys⟩:=q';rw [hbC_ok h9]at h8;rw [hbC_ok h12]at h11;cases md with
   |ex=>
    obtain⟨cur,ta,fz,c1,c2,c3,c4,c5⟩:=h.inv.cells h8;obtain⟨cur2,tb,fz2,d1,d2,d3,d4,d5⟩:=h.inv.cells h11;have hne:(E i).1≠(E j).1:=fun e=>owns_ne h.inv h8 h11 hij (x:=(E i).1) rfl (by show some (E j).1=_;rw [e])
    have hfz:fz=(0,0):=c5.2;subst hfz;refine key ?_ hfin;have h13':1<=ys.length:=h13;have d3':ys.length<=cur2.size:=d3;exact Lib.run_overlaps_apart w tS tR e f5 sz hz ⟨(E i).1,base,none⟩ ⟨(E j).1,base',none⟩ nn (c.re E i) n' (c'.re E j) hne ta tb cur.size cur2.size (by simp [World.shape?,c1]) (by simp [World.shape?,d1]) (by omega) (by simp [World.frozen?,c1]) (by simp [World.frozen?,c1])
   |_=>cases h10
 ·cases hv
theorem op1_wd(hC:Cok C Gp)(hK:KsOk C Gp K)(h:At C Gp m S w0 E w){ops:Array Oper}{o:Oper}(hg:o.guard=none)(hv:op1 C K m S o=some S'):Wd C Gp m ops S S' w0 E w o:=by
 unfold op1 at hv;cases hc:isCall o.op with
 |none=>rw [hc]at hv;exact opO_wd hC h hg hv
 |some c=>
  rw [hc]at hv;cases ho:ovlE C m S c.1 c.2 with
  |none=>
   have hv:(zaj (ob (callE K m S c.1 c.2 o.dst.isSome) fun r=>some (⟨dset S.F o.dst r.1,r.2,S.D⟩:T)) (fun v=>ob o.dst fun d=>some ⟨S.F.set d v,S.H,S.D⟩) (ovlE C m S c.1 c.2):Option T)=some S':=hv;rw [ho]at hv;obtain⟨⟨v,H'⟩,h1,hv⟩:=aab hv;cases hv
   exact call_wd hC hK h hg hc h1
  |some v=>
   have hv:(zaj (ob (callE K m S c.1 c.2 o.dst.isSome) fun r=>some (⟨dset S.F o.dst r.1,r.2,S.D⟩:T)) (fun v=>ob o.dst fun d=>some ⟨S.F.set d v,S.H,S.D⟩) (ovlE C m S c.1 c.2):Option T)=some S':=hv;rw [ho]at hv;obtain⟨d,h2,hv⟩:=aab hv;cases hv
   intro rest Q hk;obtain⟨f,args⟩:=c;obtain⟨g5,g6⟩:=ovl_run hC h hc ho;refine abn hg h2 g5 ?_;have hq:Go.Wk.W C.P (aif E m S.D) ops Q rest (rF E (S.F.set d v)) w:=hk E w (Ag.refl _ _) (zab _) (at_set h (Ag.refl _ _) (zab _) h.inv d g6);rw [rF_set]at hq;exact hq
theorem op1_nog(o:Oper)(g:Option (Nat×Bool)):op1 C K m S {o with guard:=g}=op1 C K m S o:=by
 obtain⟨d,op,ty,pos,after,gd⟩:=o;unfold op1 opO;cases op<;>rfl
theorem gval_ok{v:SV}{b r:Bool}(h:gval v b=some r)(E:En):(v.re E=.bool b/\r=true)\/(v.re E=.bool (!b)/\r=false)\/(v=.u/\r=false):=by
 cases v with
 |c x=>
  obtain⟨t,h1,h⟩:=aab (show(ob x.asB fun t=>some (bi t b (inot b)))=some r from h);cases h
  obtain rfl:=asB_ok h1;cases t<;>cases b<;>simp [bi,inot,SV.re,SC.re]
 |u=>cases h;exact .inr (.inr ⟨rfl,rfl⟩)
 |a l=>cases h
 |t l=>cases h
theorem opG_wd(hC:Cok C Gp)(hK:KsOk C Gp K)(h:At C Gp m S w0 E w){ops:Array Oper}{o:Oper}(hv:opG C K m ops S o=some S'):Wd C Gp m ops S S' w0 E w o:=by
 obtain⟨dst,op,ty,pos,after,gd⟩:=o;unfold opG at hv;cases gd with
 |none=>exact op1_wd hC hK h rfl hv
 |some q=>
  obtain⟨g,b⟩:=q;obtain⟨dg,h1,hv⟩:=aab hv;obtain⟨d,h2,hv⟩:=aab hv;obtain⟨h3,hv⟩:=aac hv;obtain⟨r,h4,hv⟩:=aab hv;have h2':dst=some d:=h2;subst h2';have e1:oget (S.F.get dg)=tv S.F dg:=tv_rec S.F dg;rw [e1]at h4;have hblt:zay dg (aif E m S.D).n=true:=h3;intro rest Q hk;rcases gval_ok h4 E with⟨hb,rfl⟩|⟨hb,rfl⟩|⟨hb,rfl⟩
  ·refine w_gyes dg h1 hblt hb ?_;have hv':op1 C K m S (⟨some d,op,ty,pos,after,none⟩:Oper)=some S':=by
    rw [<-op1_nog _ (some (g,b))];exact hv
   exact op1_wd hC hK h rfl hv' rest Q hk
  ·cases hv
   refine w_gno dg h1 hblt hb ?_;have hq:Go.Wk.W C.P (aif E m S.D) ops Q rest (rF E (S.F.set d .u)) w:=hk E w (Ag.refl _ _) (zab _) (at_set h (Ag.refl _ _) (zab _) h.inv d (v:=.u) trivial);rw [rF_set]at hq;exact hq
  ·cases hv
   have hu:rF E S.F dg=undef:=by
    show(tv S.F dg).re E=_
    rw [hb];rfl
   refine w_gun dg h1 hblt hu ?_;have hq:Go.Wk.W C.P (aif E m S.D) ops Q rest (rF E (S.F.set d .u)) w:=hk E w (Ag.refl _ _) (zab _) (at_set h (Ag.refl _ _) (zab _) h.inv d (v:=.u) trivial);rw [rF_set]at hq;exact hq
theorem opG_D{ops:Array Oper}{o:Oper}(hv:opG C K m ops S o=some S'):S'.D=S.D:=by
 have h1:∀S',op1 C K m S o=some S'->S'.D=S.D:=by
  intro S' hv;unfold op1 at hv;cases hc:isCall o.op with
  |none=>
   rw [hc]at hv;obtain⟨r,_,hv⟩:=aab (show opO C m S o=some S' from hv);obtain⟨r1,H'⟩:=r;cases r1 with
   |none=>
    obtain⟨_,hv⟩:=aac (show bi o.dst.isNone (some (⟨S.F,H',S.D⟩:T)) none=some S' from hv);cases hv;rfl
   |some v=>
    have hv2:(zaj (motive:=fun _=>Option T) (some ⟨S.F,H',S.D⟩) (fun d=>some ⟨S.F.set d v,H',S.D⟩) o.dst)=some S':=hv;clear hv;cases hd:o.dst with
    |none=>rw [hd]at hv2;rw [<-Option.some.inj hv2]
    |some d=>rw [hd]at hv2;rw [<-Option.some.inj hv2]
  |some c=>
   rw [hc]at hv;have hv2:(zaj (ob (callE K m S c.1 c.2 o.dst.isSome) fun r=>some (⟨dset S.F o.dst r.1,r.2,S.D⟩:T)) (fun v=>ob o.dst fun d=>some ⟨S.F.set d v,S.H,S.D⟩) (ovlE C m S c.1 c.2):Option T)=some S':=hv;clear hv;cases ho:ovlE C m S c.1 c.2 with
   |none=>
    rw [ho]at hv2;obtain⟨_,_,hv⟩:=aab hv2;cases hv;rfl
   |some v=>
    rw [ho]at hv2;obtain⟨_,_,hv⟩:=aab hv2;cases hv;rfl
 unfold opG at hv;cases hg:o.guard with
 |none=>rw [hg]at hv;exact h1 S' hv
 |some q=>
  rw [hg]at hv;obtain⟨_,_,hv⟩:=aab hv;obtain⟨_,_,hv⟩:=aab hv;obtain⟨_,hv⟩:=aac hv;obtain⟨r,_,hv⟩:=aab hv;cases r with
  |true=>exact h1 S' hv
  |false=>cases hv;rfl
theorem opsE_ok(hC:Cok C Gp)(hK:KsOk C Gp K){ops:Array Oper}:∀(l:List Oper) (S S':T) (E:En) (w:World),At C Gp m S w0 E w->opsE C K m ops l S=some S'->∀Q:Exit->Act->World->Prop,
  Then C Gp m S S' w0 E (fun E' w'=>Q .normal (fr (aif E' m S'.D) (rF E' S'.F)) w')->Go.Wk.W C.P (aif E m S.D) ops Q l (rF E S.F) w
 |[],S,S',E,w,h,hv,Q,hk=>by
  have e:S=S':=Option.some.inj hv;subst e;exact aeo (hk E w (Ag.refl _ _) (zab _) h)
 |o::l,S,S',E,w,h,hv,Q,hk=>by
  obtain⟨S1,h1,hv⟩:=aab (show ob (opG C K m ops S o) (opsE C K m ops l)=some S' from hv);refine opG_wd hC hK h h1 l Q ?_;intro E1 w1 a1 n1 at1;have hd:=opG_D h1
  have:=opsE_ok hC hK l S1 S' E1 w1 at1 hv Q (fun E2 w2 a2 n2 at2=>hk E2 w2 (a1.trans a2 n1) (zau n1 n2) at2)
  rw [hd,mdOf_ext a1 h.m h.d]at this;exact this
theorem np_seqA{P:Program}{n:Md}{y:Code}{Q:Exit->Act->World->Prop}(h:NoP Q):NoP (SeqQ P n y Q):=by unfold SeqQ;exact h
theorem onX_some{r:RT}{nm rt:T->RT}{xt:Nat->T->RT}{v:Ex×T}(h:onX r nm rt xt=some v):∃e S,r=some (e,S)/\((e=.nm/\nm S=some v)\/(e=.rt/\rt S=some v)\/∃id,e=.xt id/\xt id S=some v):=by
 cases r with
 |none=>cases h
 |some p=>
  obtain⟨e,S⟩:=p;refine⟨e,S,rfl, ?_⟩
  cases e with
  |nm=>exact .inl ⟨rfl,h⟩
  |rt=>exact .inr (.inl ⟨rfl,h⟩)
  |xt id=>exact .inr (.inr ⟨id,rfl,h⟩)
theorem ain{S1:T}{Q:En->World->Prop}(hk:Then C Gp m S S' w0 E Q){E1:En}(a1:Ag S.H.nx E E1)(n1:S.H.nx<=S1.H.nx):Then C Gp m S1 S' w0 E1 Q:=
 fun E2 w2 a2 n2 at2=>hk E2 w2 (a1.trans a2 n1) (zau n1 n2) at2
theorem run_skip{c:Code}(hc:c=.skip\/∃l,c=.label l):aiw C Gp (fun m S=>eSkip K m S) c:=by
 intro m S e S' hv w0 E w Q h hq hk;cases hv
 have:=hk E w (Ag.refl _ _) (zab _) h
 rcases hc with rfl|⟨l,rfl⟩
 ·exact c_skip this
 ·exact c_label this
theorem run_exit{id:Nat}:aiw C Gp (fun m S=>eExit id K m S) (.exit id):=by
 intro m S e S' hv w0 E w Q h hq hk;cases hv
 exact adz (hk E w (Ag.refl _ _) (zab _) h)
theorem run_ret:aiw C Gp (fun m S=>eRet K m S) .ret:=by
 intro m S e S' hv w0 E w Q h hq hk;cases hv
 exact c_ret (hk E w (Ag.refl _ _) (zab _) h)
theorem run_cond{c:Operand}{x y:Code}{a b:Ef}(hC:Cok C Gp)(ha:aiw C Gp (fun m S=>a K m S) x)(hb:aiw C Gp (fun m S=>b K m S) y):aiw C Gp (fun m S=>eCond c x y a b K m S) (.cond c x y):=by
 intro m S e S' hv w0 E w Q h hq hk;obtain⟨v,h1,hv⟩:=aab hv;obtain⟨t,h2,hv⟩:=aab hv;obtain rfl:=asB_ok h2;have hx:evn (aif E m S.D) (rF E S.F) c=.bool t:=(ach (h.sd hC) h1).1;cases t with
 |true=>exact c_true hx (ha m S e S' hv w0 E w Q h hq hk)
 |false=>exact c_false hx (hb m S e S' hv w0 E w Q h hq hk)
theorem run_block{id:Nat}{x:Code}{a:Ef}(ha:aiw C Gp (fun m S=>a K m S) x):aiw C Gp (fun m S=>eBlock id x a K m S) (.block id x):=by
 intro m S e S' hv w0 E w Q h hq hk;obtain⟨e1,S1,h1,h2⟩:=onX_some hv;refine c_block (ha m S e1 S1 h1 w0 E w _ h (afy hq) ?_);intro E1 w1 a1 n1 at1;rcases h2 with⟨rfl,h2⟩|⟨rfl,h2⟩|⟨i,rfl,h2⟩
 ·cases h2;exact b_normal (hk E1 w1 a1 n1 at1)
 ·cases h2;exact b_ret (hk E1 w1 a1 n1 at1)
 ·rw [aaz]at h2;split at h2
  ·rename_i hi;rw [aak]at hi;subst hi;cases h2
   exact aek (hk E1 w1 a1 n1 at1)
  ·rename_i hi;cases h2
   refine b_past ?_ (hk E1 w1 a1 n1 at1);cases hx:zai i id with
   |false=>rfl
   |true=>exact absurd hx hi
theorem run_scope{x:Code}{a:Ef}(ha:aiw C Gp (fun m S=>a K m S) x):aiw C Gp (fun m S=>eScope x a K m S) (.scope x):=by
 intro m S e S' hv w0 E w Q h hq hk;obtain⟨h1,hv⟩:=aac hv;obtain⟨mn,mm⟩:=m;cases mm with
 |some _=>cases h1
 |none=>
  refine c_scope (ha _ S e S' hv w0 E w _ h (np_scope hq) ?_);intro E1 w1 a1 n1 at1
  have:=hk E1 w1 a1 n1 at1
  cases e with
  |nm=>exact n_normal this
  |rt=>exact n_ret this
  |xt id=>exact n_exit this
theorem run_seq{x y:Code}{a b:Ef}(ha:aiw C Gp (fun m S=>a K m S) x)(hb:aiw C Gp (fun m S=>b K m S) y):aiw C Gp (fun m S=>eSeq x y a b K m S) (.seq x y):=by
 intro m S e S' hv w0 E w Q h hq hk;obtain⟨e1,S1,h1,h2⟩:=onX_some hv;refine ael (ha m S e1 S1 h1 w0 E w _ h (np_seqA hq) ?_);intro E1 w1 a1 n1 at1;rcases h2 with⟨rfl,h2⟩|⟨rfl,h2⟩|⟨i,rfl,h2⟩
 ·have:=hb m S1 e S' h2 w0 E1 w1 Q at1 hq (ain hk a1 n1)
  have hr:ro E1 m=ro E m:=ro_ext a1 h.m;unfold aif at this⊢;rw [hr]at this⊢;exact acg this
 ·cases h2;exact s_ret (hk E1 w1 a1 n1 at1)
 ·cases h2;exact aej (hk E1 w1 a1 n1 at1)
theorem run_region{id:Nat}{ops:Array Oper}{d:Bool}(hC:Cok C Gp)(hK:KsOk C Gp K) (hd:∀m S S',drawE C K m ops S=some S'->∀w0 E w (Q:Exit->Act->World->Prop),At C Gp m S w0 E w->NoP Q->
  Then C Gp m S S' w0 E (fun E' w'=>Q .normal (fr (aif E' m S'.D) (rF E' S'.F)) w')->Go.Wk.C C.P (aif E m S.D) Q (.region id ops true) (rF E S.F) w):aiw C Gp (fun m S=>eRegion C id ops d K m S) (.region id ops d):=by
 intro m S e S' hv w0 E w Q h hq hk;cases d with
 |true=>
  obtain⟨S1,h1,hv⟩:=aab (show(ob (drawE C K m ops S) kNm)=some (e,S')from hv);cases hv
  exact hd m S S' h1 w0 E w Q h hq hk
 |false=>
  obtain⟨S1,h1,hv⟩:=aab (show(ob (opsE C K m ops ops.toList S) kNm)=some (e,S')from hv);cases hv
  obtain⟨l⟩:=ops;exact abg (opsE_ok hC hK l S S' E w h h1 Q hk)
end
open Go.Wk
open Go.Value renaming func -> zbi
open List renaming map_append -> zbc, map_congr_left -> zbh, map_cons -> zao, mem_cons_self -> zav
open Nat renaming beq -> zai, le_trans -> zau
def LB(P:Program)(n:Md)(Q:Exit->Act->World->Prop)(c:Code)(F:Nat->Value)(w:World):Prop:=
 match n.ro with
 |none=>∀(b:Frame) (k:List Item) (cs:List Frame),∃e a' w',Q e a' w'/\Arrives P (lone (b.at (fr n F) (.code c::.inLoop c::k)) cs w) b k cs e a' w'
 |some x=>∀(b:Frame) (k:List Item) (cs:List Frame),b.roundOf=(fen x).round->(fen x).fn b.fn->(fen x).room (cs.length+1+0)->
   ∃e a' w',Q e a' w'/\ArrivesIn (Machine.fenced P (fen x)) P (lone (b.atR (fr n F) (.code c::.inLoop c::k)) cs w) b k cs e a' w'
theorem lb_loop{P:Program}{n:Md}{Q:Exit->Act->World->Prop}{c:Code}{F:Nat->Value}{w:World}(h:LB P n Q c F w):Go.Wk.C P n Q (.loop c) F w:=by
 obtain⟨nn,D,ro⟩:=n;cases ro with
 |none=>
  unfold Go.Wk.C CC;intro b kk cs;obtain⟨e,a',w',hq,harr⟩:=h b kk cs;exact⟨e,a',w',hq,.of_steps (.one step_loop) harr⟩
 |some x=>
  unfold Go.Wk.C CC;intro b kk cs hro hb hr;obtain⟨e,a',w',hq,harr⟩:=h b kk cs hro hb hr;exact⟨e,a',w',hq,.of_steps (.one (fenced_calm hb hr rfl) stepR_loop) harr⟩
theorem lb_step{P:Program}{n:Md}{Q:Exit->Act->World->Prop}{c:Code}{F:Nat->Value}{w:World}
  (h:Go.Wk.C P n (Exit.then (fun a' w'=>∃F',a'=fr n F'/\LB P n Q c F' w') Q) c F w):LB P n Q c F w:=by
 obtain⟨nn,D,ro⟩:=n;cases ro with
 |none=>
  unfold Go.Wk.C CC at h;intro b kk cs;obtain⟨e,a₁,w₁,hq,harr⟩:=h b (.inLoop c::kk) cs;cases e with
  |normal=>
   obtain⟨F',rfl,hlb⟩:=hq;obtain⟨e₂,a₂,w₂,hq₂,harr₂⟩:=hlb b kk cs;exact⟨e₂,a₂,w₂,hq₂,.of_steps (Steps.trans harr (.one step_inLoop)) harr₂⟩
  |exit id=>exact⟨_,a₁,w₁,hq,.pass (x:=.inLoop c) rfl (fun _ _=>.inl (by simp)) harr⟩
  |goto l=>exact⟨_,a₁,w₁,hq,.pass (x:=.inLoop c) rfl (fun _ _=>.inl (by simp)) harr⟩
  |ret=>exact⟨_,a₁,w₁,hq,.pass (x:=.inLoop c) rfl (fun _ _=>.inl (by simp)) harr⟩
  |panic ch=>exact⟨_,a₁,w₁,hq,.pass (x:=.inLoop c) rfl (fun _ _=>.inl (by simp)) harr⟩
  |outgrown=>exact⟨_,a₁,w₁,hq,.pass (x:=.inLoop c) rfl (fun _ _=>.inl (by simp)) harr⟩
 |some x=>
  unfold Go.Wk.C CC at h;intro b kk cs hro hb hr;obtain⟨e,a₁,w₁,hq,harr⟩:=h b (.inLoop c::kk) cs hro hb hr;cases e with
  |normal=>
   obtain⟨F',rfl,hlb⟩:=hq;obtain⟨e₂,a₂,w₂,hq₂,harr₂⟩:=hlb b kk cs hro hb hr;exact⟨e₂,a₂,w₂,hq₂,.of_steps (StepsIn.trans harr (.one (fenced_calm hb hr rfl) stepR_inLoop)) harr₂⟩
  |exit id=>exact⟨_,a₁,w₁,hq,.pass (x:=.inLoop c) rfl (fun _ _=>.inl (by simp)) harr⟩
  |goto l=>exact⟨_,a₁,w₁,hq,.pass (x:=.inLoop c) rfl (fun _ _=>.inl (by simp)) harr⟩
  |ret=>exact⟨_,a₁,w₁,hq,.pass (x:=.inLoop c) rfl (fun _ _=>.inl (by simp)) harr⟩
  |panic ch=>exact⟨_,a₁,w₁,hq,.pass (x:=.inLoop c) rfl (fun _ _=>.inl (by simp)) harr⟩
  |outgrown=>exact⟨_,a₁,w₁,hq,.pass (x:=.inLoop c) rfl (fun _ _=>.inl (by simp)) harr⟩
section
variable {C : Cx} {Gp : World -> Prop} {m : M} {S S' : T} {w0 w : World} {E E' : En} {K : Ks} {H : Hs}
theorem oeq_ok{a b:Option Nat}(h:oeq a b=true):a=b:=by
 cases a with
 |none=>cases b with
  |none=>rfl
  |some y=>cases h
 |some x=>cases b with
  |none=>cases h
  |some y=>
   have h':zai x y=true:=h;rw [aak]at h';rw [h']
theorem rounds_ok{x:Code}{a:Ef}(ha:aiw C Gp (fun m S=>a K m S) x):∀(f:Nat) (m:M) (S:T) (e:Ex) (S':T),rounds a f K m S=some (e,S')->∀w0 E w Q,At C Gp m S w0 E w->NoP Q->
  Then C Gp m S S' w0 E (fun E' w'=>Q (exr e) (fr (aif E' m S'.D) (rF E' S'.F)) w')->LB C.P (aif E m S.D) Q x (rF E S.F) w
 |0,m,S,e,S',hv,w0,E,w,Q,h,hq,hk=>by cases hv
 |f+1,m,S,e,S',hv,w0,E,w,Q,h,hq,hk=>by
  obtain⟨e1,S1,h1,h2⟩:=onX_some (show onX (a K m S) (fun S1=>bi (oeq S.D S1.D) (rounds a f K m S1) none) kRt kXt=some (e,S')from hv);refine lb_step (ha m S e1 S1 h1 w0 E w _ h (ahd hq) ?_);intro E1 w1 a1 n1 at1;rcases h2 with⟨rfl,h2⟩|⟨rfl,h2⟩|⟨i,rfl,h2⟩
  ·obtain⟨h3,h2⟩:=aac h2;have hD:=oeq_ok h3;have hm:aif E1 m S1.D=aif E m S.D:=by rw [<-hD];exact mdOf_ext a1 h.m h.d
   have:=rounds_ok ha f m S1 e S' h2 w0 E1 w1 Q at1 hq (ain hk a1 n1)
   rw [hm]at this⊢;exact q_loop ⟨_,rfl,this⟩
  ·cases h2;exact acm (hk E1 w1 a1 n1 at1)
  ·cases h2;exact afq (hk E1 w1 a1 n1 at1)
theorem run_loop{x:Code}{a:Ef}(ha:aiw C Gp (fun m S=>a K m S) x):aiw C Gp (fun m S=>eLoop x a K m S) (.loop x):=
 fun m S e S' hv w0 E w Q h hq hk=>lb_loop (rounds_ok ha FU m S e S' hv w0 E w Q h hq hk)
theorem c_rangeFunc'{P:Program}{k:Nat}{Q:Exit->Act->World->Prop}{F:Nat->Value}{L:List Res}{g:Operand}{ps:Array Tmp}{assign body:Code}(hH:Hp w0 [] L w)(f:Nat)(cap:List Value)(hg:evn ⟨k,[],some none⟩ F g=.func (.func f) #[] cap.toArray)
  (hc:∀rc:Loop,rc.assign=assign->rc.body=body->rc.params=ps->rc.tmps=(fr ⟨k,[],some none⟩ F).tmps->∀w2,Hp w0 [] (lrec (w.heap.size+1) 0 rc::dfr w.heap.size::L) w2->
   Enters P f/\CR P f (.func (.yield (w.heap.size+1)) #[] #[]::cap) w2 fun _ w3=>∃j rc' L3,Hp w0 [] (lrec (w.heap.size+1) j rc'::L3) w3/\∀w4,Hp w0 [] L3 w4->RgQ P k w.heap.size Q F j w4):
  Go.Wk.C P ⟨k,[],some none⟩ Q (.rangeFunc g ps assign body) F w:=by
 unfold Go.Wk.C CC;refine wpIn_rangeFunc fun fn _=> ?_
 have hH1:=hH.allocR (.deferred (some [])) (dfr w.heap.size) rfl rfl;have hH2:=hH1.allocR (.loop {state:=.ready,pending:=none,fn:=fn,tmps:=(fr ⟨k,[],some none⟩ F).tmps,params:=ps,assign:=assign,body:=body,defers:=w.heap.size}) (lrec (w.heap.size+1) 0 {state:=.ready,pending:=none,fn:=fn,tmps:=(fr ⟨k,[],some none⟩ F).tmps,params:=ps,assign:=assign,body:=body,defers:=w.heap.size}) (by simp [lrec]) rfl;obtain⟨hE,hc⟩:=hc _ rfl rfl rfl rfl _ hH2;refine⟨w.heap.size+1,[Go.Wk.mark w.heap.size],((w.alloc (.deferred (some []))).alloc (.loop {state:=.ready,pending:=none,fn:=fn,tmps:=(fr ⟨k,[],some none⟩ F).tmps,params:=ps,assign:=assign,body:=body,defers:=w.heap.size})),{target:=.fn (.func f) cap.toArray,args:= #[]++ #[.func (.yield (w.heap.size+1)) #[] #[]]},((w.alloc (.deferred (some []))).alloc (.loop {state:=.ready,pending:=none,fn:=fn,tmps:=(fr ⟨k,[],some none⟩ F).tmps,params:=ps,assign:=assign,body:=body,defers:=w.heap.size})),f,(zbi (.yield (w.heap.size+1)) #[] #[]::cap).toArray,((w.alloc (.deferred (some []))).alloc (.loop {state:=.ready,pending:=none,fn:=fn,tmps:=(fr ⟨k,[],some none⟩ F).tmps,params:=ps,assign:=assign,body:=body,defers:=w.heap.size})),run_enterLoop_outer fn _ _ _ _, ?_,fun _ _=>trivial, ?_,fun h=>absurd h Bool.false_ne_true, ?_⟩
 ·rw [afa];simp only [resolve,rangeCall,hg,Deferred.ofValue];simp
  rfl
 ·have e:(#[]++ #[zbi (.yield (w.heap.size+1)) #[] #[]]:Array Value)++cap.toArray=(zbi (.yield (w.heap.size+1)) #[] #[]::cap).toArray:=by simp
  rw [<-e];exact hE.run _ _
 ·refine(callsIn_wide (n:=0)).2 (Calls.mono hc ?_)
  rintro e w3 ⟨v,rfl,j,rc',L3,h3,h4⟩
  have hl:w3.heap[w.heap.size+1]? =_:=(h3.res _ (zav)).1;have hb:lst j≠.busy:=by unfold lst;split<;>simp
  refine⟨jmp j,_,run_endLoop hl hb, ?_⟩
  have h5:=(h3.put 0 (w.heap.size+1) _ (gone (w.heap.size+1)) (.loop {({rc' with state:=lst j,pending:=jmp j}:Loop)with state:=.exhausted,pending:=jmp j}) rfl rfl rfl trivial).tail;have h6:=h4 _ h5;unfold RgQ at h6
  revert h6
  generalize jmp j=pd;intro h6;cases pd with
  |none=>exact h6
  |some c=>unfold Go.Wk.C CC at h6;exact h6
theorem run_range{f:Operand}{ps:Array Nat}{asg body:Code}{xa xb:Ef}(hC:Cok C Gp)(hK:KsOk C Gp K):aiw C Gp (fun m S=>eRange f ps asg body xa xb K m S) (.rangeFunc f ps asg body):=by
 intro m S e S' hv w0 E w Q h hq hk;obtain⟨mm,h1,hv⟩:=aab hv;obtain⟨h2,hv⟩:=aac hv;obtain⟨h3,hv⟩:=aac hv;obtain⟨g,h4,hv⟩:=aab hv;obtain⟨hf,hfok⟩:=ach (h.sd hC) h4;obtain⟨mn,mo⟩:=m;have hmm:mo=some none:=by
  have h1':mo=some mm:=h1;cases mm with
  |none=>exact h1'
  |some l=>cases h2
 subst hmm;have hD:S.D=none:=by simpa using h3
 cases g with
 |fn k cs=>
  obtain⟨⟨u,H2⟩,h5,hv⟩:=aab (show(ob (K.call k (.c (.y (S.H.nx+1))::ptrs cs) ((S.H.add .df).add (.lp false 0 mn ps.toList asg body S.F))) fun r=>ob (lpAt r.2 (S.H.nx+1) false) fun q=>
   (fun S':T=>(Nat.rec (some (.nm,S')) (fun j _=>Nat.rec (some (.rt,S')) (fun id _=>some (.xt id,S')) j) q.1:RT)) ⟨S.F,r.2.upd (S.H.nx+1) .gn,some S.H.nx⟩)=some (e,S')from hv)
  obtain⟨q,h6,hv⟩:=aab hv;have hmd:aif E ⟨mn,some none⟩ S.D=⟨mn,[],some none⟩:=by rw [hD];rfl
  rw [hmd]at hf⊢;have hf':evn ⟨mn,[],some none⟩ (rF E S.F) f=.func (.func k) #[] (cs.map fun i=>Value.pointer (some ⟨(E i).1,0,none⟩)).toArray:=hf;refine c_rangeFunc' h.inv.hp k _ hf' ?_;intro rc r1 r2 r3 r4 w2 hp2
  let E1:=eat E S.H.nx (w.heap.size,0)
  let E2:=eat E1 (S.H.nx+1) (w.heap.size+1,0)
  have a1:Ag S.H.nx E E1:=ahf _ _ _;have a2:Ag (S.H.nx+1) E1 E2:=ahf _ _ _;have a12:Ag S.H.nx E E2:=a1.trans a2 (by omega);have inv1:Inv w0 E1 (S.H.add .df) w2:=by
   refine h.inv.add a1 trivial ?_;have e1:resOf E1 S.H.nx .df=dfr w.heap.size:=by simp only [resOf,E1,abu]
   rw [e1];exact hp2.tail
  have inv2:Inv w0 E2 ((S.H.add .df).add (.lp false 0 mn ps.toList asg body S.F)) w2:=by
   refine inv1.add a2 (Fok.up (by show S.H.nx<=S.H.nx+1+1;omega) h.fok) ?_;have e1:resOf E2 (S.H.nx+1) (.lp false 0 mn ps.toList asg body S.F)=lpres (w.heap.size+1) false 0 mn ps.toList asg body (rF E S.F):=by
    simp only [resOf];rw [rF_ext a12 h.fok];simp only [E2,abu]
   show Hp w0 [] (resOf E2 (S.H.nx+1) (.lp false 0 mn ps.toList asg body S.F)::afe E1 (S.H.add .df)) w2;rw [e1];have e2:afe E1 (S.H.add .df)=afe E S.H++[dfr w.heap.size]:=by
    show(List.range (S.H.nx+1)).map _=_
    rw [List.range_succ,zbc];congr 1
    ·refine zbh fun i hi=> ?_
     have hi:i<S.H.nx:=List.mem_range.1 hi;rw [hat_add,if_neg (by omega),resOf_ext a1 hi (h.inv.hatok i)]
    ·simp [hat_add,resOf,E1,abu]
   rw [e2];have hp3:=hp_weak (k:=0) (r':=lpres (w.heap.size+1) false 0 mn ps.toList asg body (rF E S.F)) hp2 rfl rfl ⟨rc,r1,r2,by rw [r3],r4,(hp2.res _ zav).1⟩;refine hp3.perm ?_;refine List.Perm.cons _ ?_;exact(List.perm_append_singleton _ _).symm
  obtain⟨p1,p2⟩:=ptrs_ok (k:=S.H.nx) E2 (l:=cs) hfok;obtain⟨hE,hcr⟩:=hK.call k _ _ _ _ h5 w0 E2 w2 h.gp inv2 (fun x hx=>by
   rcases List.mem_cons.1 hx with rfl|hx
   ·show S.H.nx+1<S.H.nx+1+1;omega
   ·exact SV.up (by show S.H.nx<=S.H.nx+1+1;omega) (p2 x hx))
  refine⟨hE, ?_⟩
  have hargs:(SV.c (.y (S.H.nx+1))::ptrs cs).map (SV.re E2)=.func (.yield (w.heap.size+1)) #[] #[]::cs.map fun i=>Value.pointer (some ⟨(E i).1,0,none⟩):=by
   rw [zao,p1];congr 1
   ·simp only [SV.re,SC.re,E2,abu]
   ·exact zbh fun i hi=>by rw [a12 i (hfok i hi)]
  rw [hargs]at hcr;refine CR.mono hcr ?_;rintro V w3 ⟨E3,g1,g2,g3,g4,rfl⟩
  obtain⟨hi3,hF3,rc3,t1,t2,t3,t4,t5⟩:=lp_get g3 h6;have ei:(E3 (S.H.nx+1)).1=w.heap.size+1:=by
   rw [g1 (S.H.nx+1) (by show S.H.nx+1<S.H.nx+1+1;omega)];simp only [E2,abu]
  have e0:(E3 S.H.nx).1=w.heap.size:=by
   rw [g1 S.H.nx (by show S.H.nx<S.H.nx+1+1;omega)];rw [a2 S.H.nx (by omega)];simp only [E1,abu]
  have a3:Ag S.H.nx E E3:=a12.trans g1 (by show S.H.nx<=S.H.nx+1+1;omega);have n3:S.H.nx<=H2.nx:=zau (by show S.H.nx<=S.H.nx+1+1;omega) g2;simp only at t5;rw [ei]at t5;have hlen3:S.H.nx+1<(afe E3 H2).length:=by rw [ahc];exact hi3
  have hp4:=t5.front (S.H.nx+1) _ (List.getElem?_set_self hlen3);refine⟨q.1,rc3,_,hp4, ?_⟩
  intro w4 hp5;have inv4:Inv w0 E3 (H2.upd (S.H.nx+1) .gn) w4:=by
   refine g3.upd hi3 trivial ?_;have e5:((afe E3 H2).set (S.H.nx+1) (lrec (w.heap.size+1) q.1 rc3)).eraseIdx (S.H.nx+1)=(afe E3 H2).eraseIdx (S.H.nx+1):=by
    rw [List.eraseIdx_set_eq]
   rw [e5]at hp5;exact Hp.perm (hp_gn hp5) (set_perm _ _ _ hlen3).symm
  have hd4:∀r,some S.H.nx=some r->r<H2.nx:=fun r e=>by
   cases e
   have:S.H.nx+1+1<=H2.nx:=g2
   omega
  have at4:At C Gp ⟨mn,some none⟩ ⟨S.F,H2.upd (S.H.nx+1) .gn,some S.H.nx⟩ w0 E3 w4:=
   ⟨inv4,Fok.up n3 h.fok,h.gp,(fun l e=>by cases e),hd4⟩
  have hmd3:aif E3 ⟨mn,some none⟩ (some S.H.nx)=⟨mn,[Go.Wk.mark w.heap.size],some none⟩:=by
   show(⟨mn,[Go.Wk.mark (E3 S.H.nx).1],some none⟩:Md)=_
   rw [e0]
  have hF4:rF E3 S.F=rF E S.F:=rF_ext a3 h.fok;generalize hj:q.1=j at hv⊢;cases j with
  |zero=>
   have ev:((.nm,⟨S.F,H2.upd (S.H.nx+1) .gn,some S.H.nx⟩):Ex×T)=(e,S'):=Option.some.inj hv;cases ev
   have this:Q .normal (fr (aif E3 ⟨mn,some none⟩ (some S.H.nx)) (rF E3 S.F)) w4:=hk E3 w4 a3 n3 at4;rw [hmd3,hF4]at this;exact rg0 rfl this
  |succ j=>
   cases j with
   |zero=>
    have ev:((.rt,⟨S.F,H2.upd (S.H.nx+1) .gn,some S.H.nx⟩):Ex×T)=(e,S'):=Option.some.inj hv;cases ev
    have this:Q .ret (fr (aif E3 ⟨mn,some none⟩ (some S.H.nx)) (rF E3 S.F)) w4:=hk E3 w4 a3 n3 at4;rw [hmd3,hF4]at this;exact rg1 rfl (c_ret this)
   |succ id=>
    have ev:((.xt id,⟨S.F,H2.upd (S.H.nx+1) .gn,some S.H.nx⟩):Ex×T)=(e,S'):=Option.some.inj hv;cases ev
    have this:Q (.exit id) (fr (aif E3 ⟨mn,some none⟩ (some S.H.nx)) (rF E3 S.F)) w4:=hk E3 w4 a3 n3 at4;rw [hmd3,hF4]at this;exact rgx id rfl (adz this)
 |_=>cases hv
end
open Go.Wk
open List renaming mem_cons_of_mem -> zat, mem_cons_self -> zav, replicate -> zag
open Nat renaming beq -> zai, ble -> zam, blt -> zay
open Option renaming rec -> zaj
theorem beqb_ok{a b:Bool}(h:beqb a b=true):a=b:=by cases a<;>cases b<;>first|rfl|cases h
theorem cpe_ok{a b:Cp}(h:Cp.eqb a b=true):a=b:=by
 cases a with
 |k c=>cases b with
  |k c'=>have h':zai c c'=true:=h;rw [aak]at h';rw [h']
  |r _=>cases h
 |r c=>cases b with
  |r c'=>have h':zai c c'=true:=h;rw [aak]at h';rw [h']
  |k _=>cases h
theorem bb2{a b:Bool}(h:bi a b false=true):a=true/\b=true:=by
 cases a with
 |true=>exact⟨rfl,h⟩
 |false=>cases h
theorem nb{a b:Nat}(h:zai a b=true):a=b:=by rw [aak]at h;exact h
theorem eqL_ok{α:Type}{q:α->α->Bool}(hq:∀{x y},q x y=true->x=y):∀{l r:List α},eqL q l r=true->l=r
 |[],[],_=>rfl
 |[],_::_,h=>by cases h
 |_::_,[],h=>by cases h
 |x::l,y::r,h=>by
  obtain⟨h1,h2⟩:=bb2 (show bi (q x y) (eqL q l r) false=true from h);rw [hq h1,eqL_ok hq h2]
theorem sce_ok{x y:SC}(h:SC.eqb x y=true):x=y:=by
 unfold SC.eqb at h;split at h
 ·rw [beqb_ok h]
 ·obtain⟨h1,h2⟩:=bb2 h;rw [kn_inj h1,nb h2]
 ·obtain⟨h1,h2⟩:=bb2 h;rw [nb h1,nb h2]
 ·rfl
 ·rfl
 ·rfl
 ·rfl
 ·rfl
 ·obtain⟨h1,h2⟩:=bb2 h;rw [nb h1,nb h2]
 ·obtain⟨h1,h2⟩:=bb2 h;rw [nb h1,nb h2]
 ·obtain⟨h1,h2⟩:=bb2 h;obtain⟨h2,h3⟩:=bb2 h2;obtain⟨h3,h4⟩:=bb2 h3;rw [nb h1,nb h2,nb h3,cpe_ok h4]
 ·obtain⟨h1,h2⟩:=bb2 h;rw [nb h1,eqL_ok nb h2]
 ·rw [nb h]
 ·rw [nb h]
 ·obtain⟨h1,h2⟩:=bb2 h;obtain⟨h2,h3⟩:=bb2 h2;obtain⟨h3,h4⟩:=bb2 h3;rw [nb h1,nb h2,nb h3,nb h4]
 ·cases h
theorem sae_ok{x y:SA}(h:SA.eqb x y=true):x=y:=by
 cases x<;>cases y<;>first|cases h|skip
 ·rw [sce_ok (show SC.eqb _ _=true from h)]
 ·rw [eqL_ok sce_ok (show eqL SC.eqb _ _=true from h)]
theorem sve_ok{x y:SV}(h:SV.eqb x y=true):x=y:=by
 cases x<;>cases y<;>first|rfl|cases h|skip
 ·rw [sce_ok (show SC.eqb _ _=true from h)]
 ·rw [eqL_ok sce_ok (show eqL SC.eqb _ _=true from h)]
 ·rw [eqL_ok sae_ok (show eqL SA.eqb _ _=true from h)]
theorem moe_ok{x y:Mo}(h:Mo.eqb x y=true):x=y:=by
 cases x<;>cases y<;>first|rfl|cases h|skip
 obtain⟨h1,h2⟩:=bb2 (show bi (zai _ _) (zai _ _) false=true from h);rw [nb h1,nb h2]
theorem p2e_ok{x y:SC×SC}(h:P2.eqb x y=true):x=y:=by
 obtain⟨h1,h2⟩:=bb2 (show bi (SC.eqb x.1 y.1) (SC.eqb x.2 y.2) false=true from h);exact Prod.ext (sce_ok h1) (sce_ok h2)
theorem hbe_ok{x y:HB}(h:HB.eqb x y=true):x=y:=by
 unfold HB.eqb at h;split at h
 ·rw [eqL_ok p2e_ok h]
 ·obtain⟨h1,h2⟩:=bb2 h;obtain⟨h2,h3⟩:=bb2 h2;rw [nb h1,moe_ok h2,eqL_ok sce_ok h3]
 ·obtain⟨h1,h2⟩:=bb2 h;obtain⟨h2,h3⟩:=bb2 h2;rw [nb h1,nb h2,nb h3]
 ·rfl
 ·rfl
 ·cases h
theorem oe_ok{α:Type}{q:α->α->Bool}(hq:∀{x y},q x y=true->x=y){x y:Option α}(h:oeqb q x y=true):x=y:=by
 cases x<;>cases y<;>first|rfl|cases h|skip
 rw [hq (show q _ _=true from h)]
theorem tre_ok{α:Type}{q:α->α->Bool}(hq:∀{x y},q x y=true->x=y):∀{t t':Tr α},Tr.eqb q t t'=true->t=t'
 |.e,.e,_=>rfl
 |.e,.n ..,h=>by cases h
 |.n ..,.e,h=>by cases h
 |.n l v r,.n l' v' r',h=>by
  obtain⟨h1,h2⟩:=bb2 (show bi (oeqb q v v') (bi (Tr.eqb q l l') (Tr.eqb q r r') false) false=true from h);obtain⟨h2,h3⟩:=bb2 h2;rw [oe_ok hq h1,tre_ok hq h2,tre_ok hq h3]
theorem te_ok{S S':T}(h:T.eqb S S'=true):S=S':=by
 obtain⟨h1,h2⟩:=bb2 h;obtain⟨h2,h3⟩:=bb2 h2;obtain⟨h3,h4⟩:=bb2 h3;obtain⟨F,⟨n,t⟩,D⟩:=S;obtain⟨F',⟨n',t'⟩,D'⟩:=S';rw [show n=n' from nb h1,show D=D' from oeq_ok h2,show F=F' from tre_ok sve_ok h3,show t=t' from tre_ok hbe_ok h4]
theorem blL_ok{n:Nat}:∀{l:List Nat},blL n l=true->∀i∈l,i<n
 |[],_,i,hi=>by cases hi
 |x::l,h,i,hi=>by
  obtain⟨h1,h2⟩:=bb2 (show bi (zam (x+1) n) (blL n l) false=true from h);rcases List.mem_cons.1 hi with rfl|hi
  ·rw [aaj]at h1;exact h1
  ·exact blL_ok h2 i hi
theorem sc_okb{n:Nat}{x:SC}(h:x.okb n=true):x.ok n:=by
 cases x with
 |p i off=>have h':zam (i+1) n=true:=h;rw [aaj]at h';exact h'
 |sl i base m c=>have h':zam (i+1) n=true:=h;rw [aaj]at h';exact h'
 |y i=>have h':zam (i+1) n=true:=h;rw [aaj]at h';exact h'
 |m i=>have h':zam (i+1) n=true:=h;rw [aaj]at h';exact h'
 |z i b dd off=>have h':zam (i+1) n=true:=h;rw [aaj]at h';exact h'
 |fn f cs=>exact blL_ok (show blL n cs=true from h)
 |_=>trivial
theorem okL_ok{n:Nat}:∀{l:List SC},okL n l=true->∀x∈l,x.ok n
 |[],_,i,hi=>by cases hi
 |x::l,h,i,hi=>by
  obtain⟨h1,h2⟩:=bb2 (show bi (x.okb n) (okL n l) false=true from h);rcases List.mem_cons.1 hi with rfl|hi
  ·exact sc_okb h1
  ·exact okL_ok h2 i hi
theorem sv_okb{n:Nat}{v:SV}(h:v.okb n=true):v.ok n:=by
 cases v with
 |c x=>exact sc_okb h
 |a l=>exact okL_ok h
 |t l=>cases h
 |u=>trivial
section
variable {C : Cx} {Gp : World -> Prop} {m : M} {n : Md} {S S' : T} {w0 w : World} {E E' : En} {K : Ks} {H : Hs}
theorem hp_none(w:World):∀L:List Res,(∀r∈L,r=⟨none,fun _=>True⟩)->Hp w [] L w
 |[],_=>Hp.refl w
 |r::L,h=>by
  rw [h r zav];exact hp_gn (hp_none w L fun r hr=>h r (zat _ hr))
theorem inv_bare(E:En)(n:Nat)(w:World):Inv w E ⟨n,.e⟩ w:=by
 refine⟨hp_none w _ fun r hr=> ?_,fun i b h=> ?_,fun i b h=> ?_⟩
 ·obtain⟨i,_,rfl⟩:=List.mem_map.1 hr;show resOf E i (hat ⟨n,.e⟩ i)=_;unfold hat;simp only [Tr.get_e];rfl
 ·simp only [Tr.get_e]at h;cases h
 ·simp only [Tr.get_e]at h;cases h
theorem slOf_ok{op:Op}{q:Nat×Operand×Option Operand×Option Operand×Option Operand}(h:slOf op=some q):op=.slice q.1 q.2.1 q.2.2.1 q.2.2.2.1 q.2.2.2.2:=by
 cases op<;>first|(cases h;rfl)|cases h
theorem bare_ok(h0:Sd C m S n w0 E w){o:Oper}{v:SV}(hv:valB C m S o=some v)(w:World):(execOp (evn n (rF E S.F)) o).run C.P w=.ok (.value (v.re E)) w/\v.ok S.H.nx:=by
 have hs:Sd C.bare m (S0 S) n w E w:=⟨h0.hn,inv_bare E _ w,h0.fok,fun g cs h=>by cases h⟩
 obtain⟨d,op,ty,pos,after,gd⟩:=o;unfold valB at hv;cases hq:slOf op with
 |none=>
  have hv:(zaj (opV op C.bare m (S0 S) ⟨d,op,ty,pos,after,gd⟩) (fun q=>opSliceR C.bare m (S0 S) (room S) q.1 q.2.1 q.2.2.1 q.2.2.2.1 q.2.2.2.2) (slOf op):Option SV)=some v:=hv;rw [hq]at hv;exact opV_ok hs hv
 |some q=>
  have hv:(zaj (opV op C.bare m (S0 S) ⟨d,op,ty,pos,after,gd⟩) (fun q=>opSliceR C.bare m (S0 S) (room S) q.1 q.2.1 q.2.2.1 q.2.2.2.1 q.2.2.2.2) (slOf op):Option SV)=some v:=hv;rw [hq]at hv;have e:=slOf_ok hq;subst e;exact yd_sliceR hs (fun i k hr=>room_ok h0 hr) hv
theorem ldOf_ok{op:Op}{q:Nat×Operand}(h:ldOf op=some q):op=.load q.1 q.2:=by
 cases op<;>first|(cases h;rfl)|cases h
def fact(P:Program)(E:En)(f:Fa)(w:World):Prop:=∃A:Addr,f.x.re E=.pointer (some A)/\(loadVar f.t A).run P w=.ok (f.v.re E) w
def Srel(P:Program)(E:En)(fs:List Fa)(j:Nat)(w w':World):Prop:=∀f∈fs,abp f.D (fact P E f) j w w'
theorem srel_refl(P:Program)(E:En)(fs:List Fa):∀j w,Srel P E fs j w w:=fun _ _ _ _=>abp.same
inductive Fit (ops:Array Oper) (k:Nat):Nat->List Bool->Pl->Prop
 |dn {l:List Bool} (h:Region.seqB .any ops (ops.size-k) k l.toArray=true):Fit ops k 0 l .dn
 |pu {f:Nat} {l:List Bool} {i d:Nat} {o:Oper} {n:Pl} (h1:ops[i]? =some o) (h2:o.dst=some d) (h3:Region.free .any ops l.toArray i=true) (h4:(Region.ready .any ops l.toArray).contains i=true) (h5:zay i k=true)
   (h6:Fit ops k f (l.set i true) n):Fit ops k (f+1) l (.pu i o d n)
 |ld {f:Nat} {l:List Bool} {i d:Nat} {o:Oper} {n:Pl} {D:List Nat} (h1:ops[i]? =some o) (h2:o.dst=some d) (h3:Region.free .any ops l.toArray i=true) (h4:(Region.ready .any ops l.toArray).contains i=true) (h5:zay i k=true)
   (hD:descB .any ops i D=true) (h6:Fit ops k f (l.set i true) n):Fit ops k (f+1) l (.ld i o d D n)
 |on {f:Nat} {l:List Bool} {i:Nat} {o:Oper} {n:Pl} (h1:ops[i]? =some o) (h2:Region.ready .any ops l.toArray=[i]) (h5:zay i k=true) (h6:Fit ops k f (l.set i true) n):Fit ops k (f+1) l (.on i o n)
 |tw {f:Nat} {l:List Bool} {i j:Nat} {o o':Oper} {n n':Pl} (h1:ops[i]? =some o) (h1':ops[j]? =some o') (h2:Region.ready .any ops l.toArray=[i,j]) (h5:zay i k=true) (h5':zay j k=true)
   (h6:Fit ops k f (l.set i true) n) (h6':Fit ops k f (l.set j true) n'):Fit ops k (f+1) l (.tw i o n j o' n')
theorem qf_ok{ops:Array Oper}{k i:Nat}{l:List Bool}(h:qf C ops k l i=true):zay i k=true/\Region.free .any ops l.toArray i=true:=by
 obtain⟨h1,h2⟩:=bb2 h;refine⟨h1, ?_⟩
 cases ho:ops[i]? with
 |none=>rw [ho]at h2;cases h2
 |some o=>
  rw [ho]at h2;obtain⟨_,h2⟩:=bb2 (show bi (zam (kindV C o.op) 1) (bi o.dst.isSome (Region.free .any ops l.toArray i) false) false=true from h2);exact(bb2 h2).2
theorem planE_ok{ops:Array Oper}{k:Nat}:∀(f:Nat) (l:List Bool) (p:Pl),planE C ops k f l=some p->Fit ops k f l p
 |0,l,p,h=>by
  obtain⟨h1,h2⟩:=aac h;cases h2
  exact .dn h1
 |f+1,l,p,h=>by
  have h':zaj (stepL ops k (planE C ops k f) l (Region.ready .any ops l.toArray)) (stepQ C ops (planE C ops k f) l) ((Region.ready .any ops l.toArray).find? (qf C ops k l))=some p:=h;cases hf:(Region.ready .any ops l.toArray).find? (qf C ops k l)with
  |some i=>
   rw [hf]at h';obtain⟨o,h1,h'⟩:=aab (show stepQ C ops (planE C ops k f) l i=some p from h');obtain⟨d,h2,h'⟩:=aab h';obtain⟨n,h3,h'⟩:=aab h';obtain⟨q1,q2⟩:=qf_ok (List.find?_some hf);have hm:(Region.ready .any ops l.toArray).contains i=true:=by simpa using List.mem_of_find?_eq_some hf
   have ih:=planE_ok f _ n h3;rw [aaz]at h';split at h'
   ·cases h';exact .pu h1 h2 q2 hm q1 ih
   ·obtain⟨h4,h'⟩:=aac h';cases h';exact .ld h1 h2 q2 hm q1 h4 ih
  |none=>
   rw [hf]at h';have h':stepL ops k (planE C ops k f) l (Region.ready .any ops l.toArray)=some p:=h';unfold stepL at h';split at h'
   ·rename_i i hr;obtain⟨h1,h'⟩:=aac h';obtain⟨o,h2,h'⟩:=aab h';obtain⟨n,h3,h'⟩:=aab h';cases h'
    exact .on h2 hr h1 (planE_ok f _ n h3)
   ·rename_i i j hr;obtain⟨h1,h'⟩:=aac h';obtain⟨h1',h'⟩:=aac h';obtain⟨o,h2,h'⟩:=aab h';obtain⟨o',h2',h'⟩:=aab h';obtain⟨n,h3,h'⟩:=aab h';obtain⟨n',h3',h'⟩:=aab h';cases h'
    exact .tw h2 h2' hr h1 h1' (planE_ok f _ n h3) (planE_ok f _ n' h3')
   ·cases h'
theorem planOf_ok{ops:Array Oper}{k:Nat}{p:Pl}(h:planOf C ops=some (k,p)):aft ops k=true/\Fit ops k k (zag ops.size false) p:=by
 obtain⟨h1,h⟩:=aac (show bi (aft ops (kOf ops ops.size)) (ob (planE C ops (kOf ops ops.size) (kOf ops ops.size) (zag ops.size false)) fun p=>some (kOf ops ops.size,p)) none=some (k,p)from h);obtain⟨q,h2,h⟩:=aab h;cases h
 exact⟨h1,planE_ok _ _ _ h2⟩
end
section
variable {C : Cx} {Gp : World -> Prop} {m : M} {S S' : T} {w0 w : World} {E E' : En} {K : Ks} {H : Hs}
end
open Go.Wk
open List renaming mem_cons_of_mem -> zat, mem_cons_self -> zav
open Nat renaming blt -> zay, le_refl -> zab, le_trans -> zau
open Option renaming rec -> zaj
section
variable {C : Cx} {Gp : World -> Prop} {m : M} {S S' : T} {w0 w : World} {E E' : En} {K : Ks} {H : Hs}
theorem gpass_ok{ops:Array Oper}{o:Oper}{g:Bool}{n:Md}(hn:n.n=m.n)(h:gpass m ops S o=some g):Region.wanted o (yielded ops (fr n (rF E S.F)).tmps)=g:=by
 unfold gpass at h;cases hg:o.guard with
 |none=>
  rw [hg]at h;have e:true=g:=Option.some.inj h;subst e;simp [Region.wanted,hg]
 |some q=>
  obtain⟨gi,b⟩:=q;rw [hg]at h;obtain⟨dg,h1,h⟩:=aab h;obtain⟨h2,h⟩:=aac h;have e1:oget (S.F.get dg)=tv S.F dg:=tv_rec S.F dg;rw [e1]at h;have h3:zay dg n.n=true:=by rw [hn];exact h2
  unfold Region.wanted;simp only [hg,ahv (n:=n) ops gi dg h1 h3];rcases gval_ok h E with⟨hb,rfl⟩|⟨hb,rfl⟩|⟨hb,rfl⟩
  ·have:rF E S.F dg=.bool b:=hb
   rw [this];simp
  ·have:rF E S.F dg=.bool (!b):=hb
   rw [this];cases b<;>rfl
  ·have:rF E S.F dg=undef:=by
    show(tv S.F dg).re E=_
    rw [hb];rfl
   rw [this];simp [undef]
theorem yi_no{ops:Array Oper}{o:Oper}{n:Md}{Si:World->Prop}(hn:n.n=m.n)(h:gpass m ops S o=some false):YieldsIf C.P ops Si o undef (fr n (rF E S.F)):=.inr ⟨gpass_ok hn h,rfl⟩
theorem yi_yes{ops:Array Oper}{o:Oper}{n:Md}{Si:World->Prop}{v:Value}(hn:n.n=m.n)(h:gpass m ops S o=some true)(hr:∀w,Si w->(execOp (evn n (rF E S.F)) o).run C.P w=.ok (.value v) w):
  YieldsIf C.P ops Si o v (fr n (rF E S.F)):=.inl ⟨gpass_ok hn h,fun w hw=>by rw [afa];exact hr w hw⟩
theorem fact_at(hC:Cok C Gp){E0:En}{n0:Nat}{f:Fa}(h:At C Gp m S w0 E w)(ha:Ag n0 E0 E)(hx:f.x.ok n0)(hv:f.v.ok n0){v:SV}(hl:loadC C S f.t f.x=some v)(e:f.v=v):fact C.P E0 f w:=by
 obtain⟨A,h1,h2,h3⟩:=loadC_ok (h.sd hC) hl;subst e;exact⟨A,by rw [<-SC.ext ha hx];exact h1,by rw [<-SV.ext ha hv];exact h2⟩
theorem fact_kept(hC:Cok C Gp){E0:En}{n0 j:Nat}{f:Fa}{w':World}(h:At C Gp m S w0 E w')(ha:Ag n0 E0 E)(hx:f.x.ok n0)(hv:f.v.ok n0)(hc:chk1 C j S.H f=true):abp f.D (fact C.P E0 f) j w w':=by
 cases hD:f.D.contains j with
 |true=>exact abp.out hD
 |false=>
  have hc':bi (f.D.contains j) true (zaj false (fun v=>SV.eqb f.v v) (loadC C ⟨.e,S.H,none⟩ f.t f.x))=true:=hc;rw [hD]at hc';have hc':(zaj false (fun v=>SV.eqb f.v v) (loadC C ⟨.e,S.H,none⟩ f.t f.x):Bool)=true:=hc';have e1:loadC C ⟨.e,S.H,none⟩ f.t f.x=loadC C S f.t f.x:=rfl;rw [e1]at hc';cases hl:loadC C S f.t f.x with
  |none=>rw [hl]at hc';cases hc'
  |some v=>
   rw [hl]at hc';exact abp.new (fact_at hC h ha hx hv hl (sve_ok hc'))
structure Fin (C:Cx) (n0:Nat) (FS:List Fa):Prop where
 x:∀f∈FS,f.x.ok n0
 v:∀f∈FS,f.v.ok n0
def Sn(C:Cx)(FS:List Fa)(sn:List (Nat×Hs)):Prop:=∀p∈sn,∀f∈FS,chk1 C p.1 p.2 f=true
theorem chk_ok{n0:Nat}{fs:List Fa}{sn:List (Nat×Hs)}(h:chk C n0 fs sn=true):Fin C n0 fs/\Sn C fs sn:=by
 obtain⟨h1,h2⟩:=bb2 h;refine⟨⟨fun f hf=> ?_,fun f hf=> ?_⟩,fun p hp f hf=> ?_⟩
 ·exact sc_okb (bb2 (List.all_eq_true.1 h1 f hf)).1
 ·exact sv_okb (bb2 (List.all_eq_true.1 h1 f hf)).2
 ·exact List.all_eq_true.1 (List.all_eq_true.1 h2 p hp) f hf
theorem srel_at(hC:Cok C Gp){E0:En}{n0 j:Nat}{FS:List Fa}(hF:Fin C n0 FS){w':World}(h:At C Gp m S w0 E w')(ha:Ag n0 E0 E)(hc:∀f∈FS,chk1 C j S.H f=true):Srel C.P E0 FS j w w':=
 fun f hf=>fact_kept hC h ha (hF.x f hf) (hF.v f hf) (hc f hf)
theorem mem_lapp{α:Type}{l r:List α}{x:α}:x∈lapp l r↔x∈l\/x∈r:=by rw [air];exact List.mem_append
theorem drawP_ok(hC:Cok C Gp)(hK:KsOk C Gp K){ops:Array Oper}{k n0:Nat}{E0:En}{FS:List Fa}(hs:aft ops k=true)(hF:Fin C n0 FS){Q:Exit->Act->World->Prop}:
  ∀{f:Nat} {l:List Bool} {pl:Pl},Fit ops k f l pl->∀(S:T) (r:Dr),drawP C K m ops pl S=some r->(∀x∈r.2.1,x∈FS)->Sn C FS r.2.2->
   ∀(E:En) (w:World),At C Gp m S w0 E w->Ag n0 E0 E->n0<=S.H.nx->
   Then C Gp m S r.1 w0 E (fun E' w'=>Go.Wk.W C.P (aif E' m r.1.D) ops Q (ops.toList.drop k) (rF E' r.1.F) w')->
   Go.Wk.RO C.P (aif E m S.D) ops Q (Srel C.P E0 FS) k f l (rF E S.F) w:=by
 intro f l pl hfit;induction hfit with
 | @dn l h=>
  intro S r hv hfs hsn E w h0 ha hn hk;have e:(S,([]:List Fa),([]:List (Nat×Hs)))=r:=Option.some.inj hv;subst e;exact rO_zero h (hk E w (Ag.refl _ _) (zab _) h0)
 | @pu f l i d o n h1 h2 h3 h4 h5 h6 ih=>
  intro S r hv hfs hsn E w h0 ha hn hk;obtain⟨g,hg,hv⟩:=aab (show(ob (gpass m ops S o) fun g=>bi g (ob (valB C m S o) fun v=>drawP C K m ops n ⟨S.F.set d v,S.H,S.D⟩) (drawP C K m ops n ⟨S.F.set d .u,S.H,S.D⟩))=some r from hv);cases g with
  |false=>
   have hat:=at_set h0 (Ag.refl _ _) (zab _) h0.inv d (v:=.u) trivial
   have:=ih ⟨S.F.set d .u,S.H,S.D⟩ r hv hfs hsn E w hat ha hn hk
   simp only [rF_set]at this;exact rO_take (kn:=m.n) (kD:=dl E S.D) (ro:=ro E m) _ i d undef o h1 h2 hs h3 h4 h5 rfl (yi_no (n:=(aif E m S.D)) rfl hg) this
  |true=>
   obtain⟨v,hv1,hv⟩:=aab (show(ob (valB C m S o) fun v=>drawP C K m ops n ⟨S.F.set d v,S.H,S.D⟩)=some r from hv);have hsd:Sd C m S (aif E m S.D) w0 E w:=⟨rfl,h0.inv,h0.fok,hC.g h0.gp⟩
   have hb:=fun w=>bare_ok hsd hv1 w
   have hat:=at_set h0 (Ag.refl _ _) (zab _) h0.inv d (v:=v) (hb w).2
   have:=ih ⟨S.F.set d v,S.H,S.D⟩ r hv hfs hsn E w hat ha hn hk
   simp only [rF_set]at this;exact rO_take (kn:=m.n) (kD:=dl E S.D) (ro:=ro E m) _ i d (v.re E) o h1 h2 hs h3 h4 h5 rfl (yi_yes (n:=(aif E m S.D)) rfl hg fun w _=>(hb w).1) this
 | @ld f l i d o n D h1 h2 h3 h4 h5 hD h6 ih=>
  intro S r hv hfs hsn E w h0 ha hn hk;obtain⟨g,hg,hv⟩:=aab (show(ob (gpass m ops S o) fun g=>bi g (ob (ldOf o.op) fun q=>ob (evC m S q.2) fun y=>ob (loadC C S q.1 y) fun v=>ob (drawP C K m ops n ⟨S.F.set d v,S.H,S.D⟩) fun p=>some (p.1,(⟨D,y,q.1,v⟩:Fa)::p.2.1,p.2.2)) (drawP C K m ops n ⟨S.F.set d .u,S.H,S.D⟩))=some r from hv);cases g with
  |false=>
   have hat:=at_set h0 (Ag.refl _ _) (zab _) h0.inv d (v:=.u) trivial
   have:=ih ⟨S.F.set d .u,S.H,S.D⟩ r hv hfs hsn E w hat ha hn hk
   simp only [rF_set]at this;exact rO_take (kn:=m.n) (kD:=dl E S.D) (ro:=ro E m) _ i d undef o h1 h2 hs h3 h4 h5 rfl (yi_no (n:=(aif E m S.D)) rfl hg) this
  |true=>
   obtain⟨q,q1,hv⟩:=aab (show(ob (ldOf o.op) fun q=>ob (evC m S q.2) fun y=>ob (loadC C S q.1 y) fun v=>ob (drawP C K m ops n ⟨S.F.set d v,S.H,S.D⟩) fun p=>some (p.1,(⟨D,y,q.1,v⟩:Fa)::p.2.1,p.2.2))=some r from hv);obtain⟨y,q2,hv⟩:=aab hv;obtain⟨v,q3,hv⟩:=aab hv;obtain⟨p,q4,hv⟩:=aab hv;cases hv
   have hmem:(⟨D,y,q.1,v⟩:Fa)∈FS:=hfs _ zav;have hsd:Sd C m S (aif E m S.D) w0 E w:=⟨rfl,h0.inv,h0.fok,hC.g h0.gp⟩
   obtain⟨A,l1,l2,l3⟩:=loadC_ok hsd q3;have hx:=(ach hsd q2).1;have hat:=at_set h0 (Ag.refl _ _) (zab _) h0.inv d (v:=v) l3
   have:=ih ⟨S.F.set d v,S.H,S.D⟩ p q4 (fun x hx=>hfs x (zat _ hx)) hsn E w hat ha hn hk
   simp only [rF_set]at this;refine rO_takeS (kn:=m.n) (kD:=dl E S.D) (ro:=ro E m) (Si:=fact C.P E0 ⟨D,y,q.1,v⟩) _ i d (v.re E) D (fun j w w' h=>h _ hmem) o h1 h2 hs hD h3 h4 h5 rfl (yi_yes (n:=(aif E m S.D)) rfl hg ?_) (fact_at hC h0 ha (hF.x _ hmem) (hF.v _ hmem) q3 rfl) this;rintro w' ⟨A',f1,f2⟩
   have f1':y.re E=.pointer (some A'):=by rw [SC.ext ha (hF.x _ hmem)];exact f1
   rw [f1']at hx;have f2':(loadVar q.1 A').run C.P w'=.ok (v.re E) w':=by rw [SV.ext ha (hF.v _ hmem)];exact f2
   have ho:=ldOf_ok q1;unfold execOp;rw [ho];simp [hx,Instr.loadAt,Instr.sureAddr,f2']
 | @on f l i o n h1 h2 h5 h6 ih=>
  intro S r hv hfs hsn E w h0 ha hn hk;obtain⟨S1,q1,hv⟩:=aab (show(ob (opG C K m ops S o) fun S1=>ob (drawP C K m ops n S1) fun p=>some (p.1,p.2.1,(i,S1.H)::p.2.2))=some r from hv);obtain⟨p,q2,hv⟩:=aab hv;cases hv
  have hsn1:=hsn _ zav;refine rO_one1 (kn:=m.n) (kD:=dl E S.D) (ro:=ro E m) _ i o h1 h2 h5 rfl ?_;refine opG_wd hC hK h0 q1 [] _ ?_;intro E1 w1 a1 n1 at1;refine aeo ?_;have hd:=opG_D q1;have hr:=ih S1 p q2 hfs (fun x hx=>hsn x (zat _ hx)) E1 w1 at1 (ha.trans a1 hn) (zau hn n1) (ain hk a1 n1);rw [hd,mdOf_ext a1 h0.m h0.d]at hr;exact rO_next (kn:=m.n) (kD:=dl E S.D) (ro:=ro E m) (srel_at hC hF at1 (ha.trans a1 hn) hsn1) hr
 | @tw f l i j o o' n n' h1 h1' h2 h5 h5' h6 h6' ih ih'=>
  intro S r hv hfs hsn E w h0 ha hn hk;obtain⟨S1,q1,hv⟩:=aab (show(ob (opG C K m ops S o) fun S1=>ob (drawP C K m ops n S1) fun p=>ob (opG C K m ops S o') fun S2=>ob (drawP C K m ops n' S2) fun p'=>
   bi (p.1.eqb p'.1) (some (p.1,lapp p.2.1 p'.2.1,(i,S1.H)::(j,S2.H)::lapp p.2.2 p'.2.2)) none)=some r from hv)
  obtain⟨p,q2,hv⟩:=aab hv;obtain⟨S2,q1',hv⟩:=aab hv;obtain⟨p',q2',hv⟩:=aab hv;obtain⟨q3,hv⟩:=aac hv;cases hv
  have hsn1:=hsn _ zav;have hsn2:=hsn _ (zat _ zav);have e:p.1=p'.1:=te_ok q3;refine rO_one2 (kn:=m.n) (kD:=dl E S.D) (ro:=ro E m) _ _ i j o o' h1 h1' h2 h5 h5' rfl rfl ?_ ?_
  ·refine opG_wd hC hK h0 q1 [] _ ?_;intro E1 w1 a1 n1 at1;refine aeo ?_;have hd:=opG_D q1;have hr:=ih S1 p q2 (fun x hx=>hfs x (mem_lapp.2 (.inl hx))) (fun x hx=>hsn x (zat _ (zat _ (mem_lapp.2 (.inl hx))))) E1 w1 at1 (ha.trans a1 hn) (zau hn n1) (ain hk a1 n1);rw [hd,mdOf_ext a1 h0.m h0.d]at hr;exact rO_next (kn:=m.n) (kD:=dl E S.D) (ro:=ro E m) (srel_at hC hF at1 (ha.trans a1 hn) hsn1) hr
  ·refine opG_wd hC hK h0 q1' [] _ ?_;intro E1 w1 a1 n1 at1;refine aeo ?_;have hd:=opG_D q1';have hk':Then C Gp m S p'.1 w0 E (fun E' w'=>Go.Wk.W C.P (aif E' m p'.1.D) ops Q (ops.toList.drop k) (rF E' p'.1.F) w'):=by rw [<-e];exact hk
   have hr:=ih' S2 p' q2' (fun x hx=>hfs x (mem_lapp.2 (.inr hx))) (fun x hx=>hsn x (zat _ (zat _ (mem_lapp.2 (.inr hx))))) E1 w1 at1 (ha.trans a1 hn) (zau hn n1) (ain hk' a1 n1);rw [hd,mdOf_ext a1 h0.m h0.d]at hr;exact rO_next (kn:=m.n) (kD:=dl E S.D) (ro:=ro E m) (srel_at hC hF at1 (ha.trans a1 hn) hsn2) hr
theorem draw_ok(hC:Cok C Gp)(hK:KsOk C Gp K){id:Nat}{ops:Array Oper}(m:M)(S S':T)(hv:drawE C K m ops S=some S')(w0:World)(E:En)(w:World)(Q:Exit->Act->World->Prop)(h:At C Gp m S w0 E w)(hq:NoP Q)
  (hk:Then C Gp m S S' w0 E (fun E' w'=>Q .normal (fr (aif E' m S'.D) (rF E' S'.F)) w')):Go.Wk.C C.P (aif E m S.D) Q (.region id ops true) (rF E S.F) w:=by
 obtain⟨h1,hv⟩:=aac hv;obtain⟨p,h2,hv⟩:=aab hv;obtain⟨r,h3,hv⟩:=aab hv;obtain⟨h4,h5⟩:=aac hv;obtain⟨k,pl⟩:=p;obtain⟨hs,hfit⟩:=planOf_ok h2;obtain⟨hF,hS⟩:=chk_ok h4;obtain⟨l⟩:=ops;have hD:(ro E m).isSome=true->NoD l.toArray:=by
  intro hm j o c hj hop;have h1':noDf l.toArray=true:=by
   obtain⟨mn,mm⟩:=m;cases mm with
   |none=>cases hm
   |some x=>exact h1
  have h6:=List.all_eq_true.1 h1' o (by
   have:=List.mem_of_getElem? (show l[j]? =some o by simpa using hj)
   simpa using this)
  rw [hop]at h6;cases h6
 refine c_drawnO (kn:=m.n) (kD:=dl E S.D) (ro:=ro E m) k (Srel C.P E r.2.1) _ (srel_refl _ _ _) hC.mo hs h.inv.hp rfl hq hD fun w' hH=> ?_
 have hat:At C Gp m S w0 E w':=⟨⟨hH,h.inv.lt,h.inv.ok⟩,h.fok,h.gp,h.m,h.d⟩
 refine drawP_ok hC hK hs hF hfit S r h3 (fun _ hx=>hx) hS E w' hat (Ag.refl _ _) (zab _) ?_;intro E' w'' a' n' at';have h5':opsE C K m l.toArray (l.drop k) r.1=some S':=by
  rw [<-ldrop_eq];exact h5
 exact opsE_ok hC hK _ r.1 S' E' w'' at' h5' Q (ain hk a' n')
end
open Go.Wk
open List renaming map_cons -> zao, mem_cons_self -> zav
open Nat renaming blt -> zay, le_refl -> zab
section
variable {C : Cx} {Gp : World -> Prop} {m : M} {S S' : T} {w0 w : World} {E E' : En} {K : Ks} {H : Hs}
theorem run_none{c:Code}:aiw C Gp (fun m S=>eNone K m S) c:=fun m S e S' hv=>by cases hv
theorem exec_ok(hC:Cok C Gp)(hK:KsOk C Gp K)(c:Code):aiw C Gp (fun m S=>exec C c K m S) c:=by
 induction c with
 |skip=>exact run_skip (K:=K) (.inl rfl)
 |region id ops d=>exact run_region hC hK fun m S S' hv w0 E w Q h hq hk=>draw_ok hC hK m S S' hv w0 E w Q h hq hk
 |seq x y hx hy=>exact run_seq hx hy
 |cond c x y hx hy=>exact run_cond hC hx hy
 |block id x hx=>exact run_block hx
 |loop x hx=>exact run_loop hx
 |rangeFunc f ps asg body _ _=>exact run_range (xa:=exec C asg) (xb:=exec C body) hC hK
 |exit id=>exact run_exit (K:=K)
 |scope x hx=>exact run_scope hx
 |label l=>exact run_skip (K:=K) (.inr ⟨l,rfl⟩)
 |goto l=>exact run_none (K:=K)
 |ret=>exact run_ret (K:=K)
 |_=>exact run_none (K:=K)
theorem setL_get:∀(l:List SV) (F:Tr SV) (k t:Nat),(setL F k l).get t=if k<=t/\t<k+l.length then l[t-k]? else F.get t
 |[],F,k,t=>by rw [if_neg (fun h=>by have h1:=h.1;have h2:=h.2;simp at h2;omega)];rfl
 |v::l,F,k,t=>by
  have h:=setL_get l (F.set k v) (k+1) t;have e:setL F k (v::l)=setL (F.set k v) (k+1) l:=rfl;rw [e,h,Tr.get_set];by_cases h1:t=k
  ·subst h1;rw [if_neg (by omega),if_pos rfl,if_pos (by simp)];simp
  ·rw [if_neg h1];by_cases h2:k+1<=t/\t<k+1+l.length
   ·rw [if_pos h2,if_pos (by simp;omega)];obtain⟨j,rfl⟩:∃j,t=k+1+j:=⟨t-(k+1),by omega⟩
    rw [show k+1+j-(k+1)=j by omega,show k+1+j-k=j+1 by omega];rfl
   ·rw [if_neg h2,if_neg (by simp;omega)]
theorem setL_args(E:En)(vs:List SV):rF E (setL .e 0 vs)=argF (vs.map (SV.re E)):=by
 funext t
 unfold rF tv argF;rw [setL_get];by_cases h:0<=t/\t<0+vs.length
 ·rw [if_pos h];have h2:t<vs.length:=by omega
  simp [h2]
 ·rw [if_neg h,Tr.get_e];have h2:vs.length<=t:=by omega
  simp [h2,SV.re]
theorem setL_ok{n:Nat}{vs:List SV}(h:∀x∈vs,x.ok n):Fok n (setL .e 0 vs):=by
 intro t v hv;rw [setL_get]at hv;split at hv
 ·exact h v (List.mem_of_getElem? hv)
 ·rw [Tr.get_e]at hv;cases hv
theorem resE_ok(hC:Cok C Gp)(h:At C Gp m S w0 E w){k:Nat}{n:Md}(hn:n.n=k){x:ResultVar}{a:SA}(hv:resE C ⟨k,none⟩ S x=some a):(Go.Wk.resOf (fr n (rF E S.F)).tmps x).run C.P w=.ok (a.re E) w/\a.ok S.H.nx:=by
 have hsd:Sd C ⟨k,none⟩ S n w0 E w:=⟨hn,h.inv,h.fok,hC.g h.gp⟩
 cases x with
 |tmp t=>
  obtain⟨v,h1,h2⟩:=aab (show(ob (evO ⟨k,none⟩ S (.tmp t)) SV.sa)=some a from hv);obtain⟨h3,h4⟩:=aiz hsd h1;refine⟨?_,SV.sa_ok h2 h4⟩
  have h3':(bif zay t n.n then rF E S.F t else undef)=v.re E:=h3;rw [SV.sa_r h2];simp only [Go.Wk.resOf,fr_get,h3',Sem.run_pure]
 |cell b t=>
  obtain⟨v,h1,h2⟩:=aab (show(ob (opLoad C ⟨k,none⟩ S t (.tmp b)) SV.sa)=some a from hv);obtain⟨y,h3,h4⟩:=aab h1;obtain⟨A,l1,l2,l3⟩:=loadC_ok hsd h4;have hx:=(ach hsd h3).1;rw [l1]at hx;refine⟨?_,SV.sa_ok h2 l3⟩
  have hx':(bif zay b n.n then rF E S.F b else undef)=.pointer (some A):=hx;rw [SV.sa_r h2];simp only [Go.Wk.resOf,fr_get,hx',asAddr,Sem.run_bind,Sem.run_pure,Result.andThen_ok,l2]
theorem resL_ok(hC:Cok C Gp)(h:At C Gp m S w0 E w){k:Nat}{n:Md}(hn:n.n=k):∀{l:List ResultVar} {azq:List SA},resL C ⟨k,none⟩ S l=some azq->
  l.length=azq.length/\(∀(i:Nat) (x:ResultVar) (v:Value),l[i]? =some x->(azq.map (SA.re E))[i]? =some v->(Go.Wk.resOf (fr n (rF E S.F)).tmps x).run C.P w=.ok v w)/\∀a∈azq,a.ok S.H.nx
 |[],azq,hv=>by
  have e:[]=azq:=Option.some.inj hv;subst e;exact⟨rfl,fun i x v h=>by simp at h,fun a h=>by cases h⟩
 |x::l,azq,hv=>by
  obtain⟨a,h1,hv⟩:=aab hv;obtain⟨q,h2,hv⟩:=aab hv;cases hv
  obtain⟨r1,r2⟩:=resE_ok hC h hn h1;obtain⟨i1,i2,i3⟩:=resL_ok hC h hn (show resL C ⟨k,none⟩ S l=some q from h2);refine⟨by simp [i1], ?_, ?_⟩
  ·intro i y v hy hv;cases i with
   |zero=>
    simp at hy hv
    subst hy;subst hv;exact r1
   |succ i=>exact i2 i y v (by simpa using hy) (by simpa using hv)
  ·intro b hb;rcases List.mem_cons.1 hb with rfl|hb
   ·exact r2
   ·exact i3 b hb
theorem one_ok{n:Nat}{azq:List SA}(h:∀a∈azq,a.ok n):(oneV azq).ok n:=by
 cases azq with
 |nil=>exact fun x hx=>by cases hx
 |cons a l=>cases l with
  |nil=>exact SA.sv_ok (h a zav)
  |cons b l=>exact h
theorem one_re(E:En)(azq:List SA):(match azq.map (SA.re E)with|[u]=>u|us=>.tuple us.toArray)=(oneV azq).re E:=by
 cases azq with
 |nil=>rfl
 |cons a l=>cases l with
  |nil=>exact(SA.sv_r E a).symm
  |cons b l=>rfl
theorem results_ok(hC:Cok C Gp)(h:At C Gp m S w0 E w){k:Nat}{fn:Func}{azq:List SA}(hv:resL C ⟨k,none⟩ S fn.results.toList=some azq)(D:List Deferred)(r:Option (Option Nat)):
  (results fn (fr ⟨k,D,r⟩ (rF E S.F)).tmps).run C.P w=.ok ((oneV azq).re E) w/\(oneV azq).ok S.H.nx:=by
 obtain⟨h1,h2,h3⟩:=resL_ok hC h (n:=⟨k,D,r⟩) rfl hv;refine⟨?_,one_ok h3⟩
 have hm:=run_mapM (P:=C.P) (w:=w) (Go.Wk.resOf (fr ⟨k,D,r⟩ (rF E S.F)).tmps) fn.results.toList (azq.map (SA.re E)) (by simp [h1]) h2;unfold results;obtain⟨l,hr⟩:∃l:List ResultVar,fn.results=l.toArray:=⟨fn.results.toList,by simp⟩
 rw [hr]at hm⊢;change Sem.run C.P (do let vs<-l.toArray.mapM (Go.Wk.resOf (fr ⟨k,D,r⟩ (rF E S.F)).tmps);pure (if h:vs.size=1 then vs[0]else .tuple vs)) w=_
 simp only [List.mapM_toArray,Sem.run_bind,Sem.run_map];rw [hm];simp only [Result.andThen_ok,Sem.run_pure];rw [<-one_re];congr 1
 generalize azq.map (SA.re E)=vs;cases vs with
 |nil=>simp
 |cons u us=>cases us with
  |nil=>simp
  |cons u' us=>simp
theorem mdF_two(c:Code)(vs:List SV):mdF c vs=none\/mdF c vs=some none:=by
 unfold mdF;cases hasRF c with
 |true=>exact .inr rfl
 |false=>cases anyY vs with
  |true=>exact .inr rfl
  |false=>exact .inl rfl
theorem onX'_some{r:RT}{k:T->Option (SV×Hs)}{v:SV×Hs}(h:runF.onX' r k=some v):∃e S,r=some (e,S)/\(e=.nm\/e=.rt)/\k S=some v:=by
 cases r with
 |none=>cases h
 |some p=>
  obtain⟨e,S⟩:=p;cases e with
  |nm=>exact⟨_,S,rfl,.inl rfl,h⟩
  |rt=>exact⟨_,S,rfl,.inr rfl,h⟩
  |xt id=>cases h
theorem isDf_ok{b:HB}(h:b.isDf=true):b=.df:=by
 cases b<;>first|rfl|cases h
def calm(Q:Exit->Act->World->Prop):Exit->Act->World->Prop
 |.panic _,_,_=>False
 |e,a,w=>Q e a w
theorem calm_le{Q:Exit->Act->World->Prop}:∀e a w,calm Q e a w->Q e a w:=by
 intro e a w h;cases e<;>first|exact h|cases h
theorem calm_np{Q:Exit->Act->World->Prop}:NoP (calm Q):=fun _ _ _ h=>h
theorem C_mono{P:Program}{n:Md}{Q Q':Exit->Act->World->Prop}{c:Code}{F:Nat->Value}{w:World}(hq:∀e a w,Q e a w->Q' e a w)(h:Go.Wk.C P n Q c F w):Go.Wk.C P n Q' c F w:=by
 obtain⟨k,D,ro⟩:=n;unfold Go.Wk.C CC at h⊢;cases ro with
 |none=>exact Code.wp_mono hq h
 |some x=>exact Code.wpIn_mono hq h
theorem body_ok(hC:Cok C Gp)(hK:KsOk C Gp K)(k:Nat):aew C Gp (bodyE C K k) k:=by
 intro vs H v H' hv w0 E w hg inv hok;obtain⟨fn,h1,hv⟩:=aab hv;obtain⟨c,h2,hv⟩:=aab hv;obtain⟨h3,hv⟩:=aac hv;have hlen:(vs.map (SV.re E)).length<=fn.ntmps:=by rw [aaj,abm]at h3;simpa using h3
 refine⟨⟨fn,c,h1,h2,hC.ng k fn h1⟩, ?_⟩
 obtain⟨e,S,hx,he,hv⟩:=onX'_some hv;obtain⟨hD,hv⟩:=aac hv;obtain⟨S2,hu,hv⟩:=aab hv;obtain⟨azq,hr,hv⟩:=aab hv;cases hv
 have hat:At C Gp ⟨fn.ntmps,mdF c vs⟩ ⟨setL .e 0 vs,H,none⟩ w0 E w:=by
  refine⟨inv,setL_ok hok,hg,fun l hl=> ?_,fun r hr=>by cases hr⟩
  rcases mdF_two c vs with h|h
  ·have hl':mdF c vs=some (some l):=hl;rw [h]at hl';cases hl'
  ·have hl':mdF c vs=some (some l):=hl;rw [h]at hl';cases hl'
 rcases mdF_two c vs with hm|hm
 ·rw [hm]at hx hat hD;have hDn:S.D=none:=by
   cases hd:S.D with
   |none=>rfl
   |some d=>rw [hd]at hD;cases hD
  have hS:S=S2:=by
   unfold undf at hu;rw [hDn]at hu;exact Option.some.inj hu
  subst hS;refine enter (k:=fn.ntmps) h1 h2 rfl hlen ?_;rw [<-setL_args];refine exec_ok hC hK c _ _ e S hx w0 E w _ hat aeq ?_;intro E' w' a' n' at';obtain⟨q1,q2⟩:=results_ok hC at' hr [] none;have hres:∃E',Ag H.nx E E'/\H.nx<=S.H.nx/\Inv w0 E' S.H w'/\(oneV azq).ok S.H.nx/\(oneV azq).re E'=(oneV azq).re E':=⟨E',a',n',at'.inv,q2,rfl⟩
  rw [hDn];have hres:∃E'',Ag H.nx E E''/\H.nx<=S.H.nx/\Inv w0 E'' S.H w'/\(oneV azq).ok S.H.nx/\(oneV azq).re E'=(oneV azq).re E'':=⟨E',a',n',at'.inv,q2,rfl⟩
  rcases he with rfl|rfl
  ·exact⟨rfl,_,q1,_,rfl,hres⟩
  ·exact⟨rfl,_,q1,_,rfl,hres⟩
 ·rw [hm]at hx hat;refine enterM (k:=fn.ntmps) h1 h2 rfl hlen ?_;rw [<-setL_args];refine C_mono (Q:=calm (bodyPostM Fence.wide 0 C.P fn fun e w'=>∃v,e=.returned v/\∃E'',Ag H.nx E E''/\H.nx<=S2.H.nx/\Inv w0 E'' S2.H w'/\(oneV azq).ok S2.H.nx/\v=(oneV azq).re E'')) calm_le ?_;refine exec_ok hC hK c _ _ e S hx w0 E w _ hat calm_np ?_;intro E' w' a' n' at'
  suffices hs:bodyPostM Fence.wide 0 C.P fn (fun e w'=>∃v,e=.returned v/\∃E'',Ag H.nx E E''/\H.nx<=S2.H.nx/\Inv w0 E'' S2.H w'/\(oneV azq).ok S2.H.nx/\v=(oneV azq).re E'') .ret (fr (aif E' ⟨fn.ntmps,some none⟩ S.D) (rF E' S.F)) w' by
   rcases he with rfl|rfl
   ·exact m_norm hs
   ·exact hs
  cases hd:S.D with
  |none=>
   have hS:S=S2:=by
    unfold undf at hu;rw [hd]at hu;exact Option.some.inj hu
   subst hS;obtain⟨q1,q2⟩:=results_ok hC at' hr [] none;exact m_res0 ⟨_,q1,E',a',n',at'.inv,q2,rfl⟩
  |some d=>
   unfold undf at hu;rw [hd]at hu;obtain⟨b,hb,hu⟩:=aab (show(ob (S.H.t.get d) fun b=>bi b.isDf (some (⟨S.F,S.H.upd d .gn,none⟩:T)) none)=some S2 from hu);obtain⟨hb2,hu⟩:=aac hu;cases hu
   obtain rfl:=isDf_ok hb2;have hlt:d<S.H.nx:=at'.inv.lt d _ hb;have hk:(afe E' S.H)[d]? =some (dfr (E' d).1):=at'.inv.at hb;refine m_res1 at'.inv.hp d (E' d).1 hk ?_;intro w2 hp2;have hlen2:d<(afe E' S.H).length:=by rw [ahc];exact hlt
   have hp3:=(hp2.front d _ (List.getElem?_set_self hlen2)).tail;rw [List.eraseIdx_set_eq]at hp3;have inv2:Inv w0 E' (S.H.upd d .gn) w2:=at'.inv.upd hlt trivial (Hp.perm (hp_gn hp3) (set_perm _ _ _ hlen2).symm);have at2:At C Gp ⟨fn.ntmps,none⟩ ⟨S.F,S.H.upd d .gn,none⟩ w0 E' w2:=⟨inv2,at'.fok,at'.gp,fun l hl=>(by cases hl),fun r hr=>(by cases hr)⟩
   obtain⟨q1,q2⟩:=results_ok hC at2 hr [] none;exact⟨_,q1,E',a',n',inv2,q2,rfl⟩
theorem sc_pl{x:SC}(h:x.pl=true)(n:Nat)(E E':En):x.ok n/\x.re E=x.re E':=by
 cases x with
 |p i o=>cases h
 |sl i o m c=>cases h
 |y i=>cases h
 |m i=>cases h
 |z i b dd off=>cases h
 |fn f l=>
  cases l with
  |nil=>exact⟨fun i hi=>(by cases hi),rfl⟩
  |cons a l=>cases h
 |_=>exact⟨trivial,rfl⟩
theorem plL_ok{l:List SC}(n:Nat)(E E':En):plL l=true->(∀x∈l,x.ok n)/\l.map (SC.re E)=l.map (SC.re E'):=by
 induction l with
 |nil=>exact fun _=>⟨fun x hx=>(by cases hx),rfl⟩
 |cons x l ih=>
  intro h;obtain⟨h1,h2⟩:=bb2 (show bi x.pl (plL l) false=true from h);obtain⟨i1,i2⟩:=ih h2;obtain⟨j1,j2⟩:=sc_pl h1 n E E';refine⟨fun y hy=> ?_,by rw [zao,zao,i2,j2]⟩
  rcases List.mem_cons.1 hy with rfl|hy
  ·exact j1
  ·exact i1 y hy
theorem sa_pl{x:SA}(h:x.pl=true)(n:Nat)(E E':En):x.ok n/\x.re E=x.re E':=by
 cases x with
 |c x=>exact sc_pl h n E E'
 |a l=>obtain⟨h1,h2⟩:=plL_ok n E E' (show plL l=true from h);exact⟨h1,by simp only [SA.re];rw [h2]⟩
theorem plT_ok{l:List SA}(n:Nat)(E E':En):plT l=true->(∀x∈l,x.ok n)/\l.map (SA.re E)=l.map (SA.re E'):=by
 induction l with
 |nil=>exact fun _=>⟨fun x hx=>(by cases hx),rfl⟩
 |cons x l ih=>
  intro h;obtain⟨h1,h2⟩:=bb2 (show bi x.pl (plT l) false=true from h);obtain⟨i1,i2⟩:=ih h2;obtain⟨j1,j2⟩:=sa_pl h1 n E E';refine⟨fun y hy=> ?_,by rw [zao,zao,i2,j2]⟩
  rcases List.mem_cons.1 hy with rfl|hy
  ·exact j1
  ·exact i1 y hy
theorem sv_pl{x:SV}(h:x.pl=true)(n:Nat)(E E':En):x.ok n/\x.re E=x.re E':=by
 cases x with
 |c x=>exact sc_pl h n E E'
 |a l=>obtain⟨h1,h2⟩:=plL_ok n E E' (show plL l=true from h);exact⟨h1,by simp only [SV.re];rw [h2]⟩
 |t l=>obtain⟨h1,h2⟩:=plT_ok n E E' (show plT l=true from h);exact⟨h1,by simp only [SV.re];rw [h2]⟩
 |u=>exact⟨trivial,rfl⟩
theorem plV_ok{l:List SV}(n:Nat)(h:plV l=true):∀x∈l,x.ok n:=by
 induction l with
 |nil=>exact fun x hx=>by cases hx
 |cons x l ih=>
  obtain⟨h1,h2⟩:=bb2 (show bi x.pl (plV l) false=true from h);intro y hy;rcases List.mem_cons.1 hy with rfl|hy
  ·exact(sv_pl h1 n (fun _=>(0,0)) (fun _=>(0,0))).1
  ·exact ih h2 y hy
def Xok(C:Cx)(Gp:World->Prop):Prop:=∀k f,C.X k=some f->aew C Gp f k
theorem callK_ok(hC:Cok C Gp)(hX:Xok C Gp)(hK:KsOk C Gp K)(k:Nat):aew C Gp (callK C K k) k:=by
 intro vs H v H' hv w0 E w hg inv hok;unfold callK at hv;cases hx:C.X k with
 |some f=>
  rw [hx]at hv;exact hX k f hx vs H v H' hv w0 E w hg inv hok
 |none=>
  rw [hx]at hv;have hv:bi (C.pure k) (bi (plV vs) (ob (bodyE C K k vs H0) fun r=>bi r.1.pl (some (r.1,H)) none) none) (bodyE C K k vs H)=some (v,H'):=hv;rw [aaz]at hv;split at hv
  ·obtain⟨hp,hv⟩:=aac hv;obtain⟨r,h1,hv⟩:=aab hv;obtain⟨h2,hv⟩:=aac hv;cases hv
   obtain⟨hE,hc⟩:=body_ok hC hK k vs H0 r.1 r.2 h1 w E w (hC.gp hg inv.hp) (inv_bare E 0 w) (plV_ok 0 hp);refine⟨hE,CR.mono hc ?_⟩
   rintro V w' ⟨E',g1,g2,g3,g4,rfl⟩
   exact⟨E,Ag.refl _ _,zab _,⟨inv.hp.call g3.hp.nil,inv.lt,inv.ok⟩,(sv_pl h2 _ E E).1,(sv_pl h2 0 E' E).2⟩
  ·exact body_ok hC hK k vs H v H' hv w0 E w hg inv hok
theorem lev_ok(hC:Cok C Gp)(hX:Xok C Gp):∀n,KsOk C Gp (lev C n)
 |0=>⟨fun k vs H v H' hv=>(by cases hv),fun c m S e S' hv=>(by cases hv)⟩
 |n+1=>⟨fun k=>callK_ok hC hX (lev_ok hC hX n) k,fun c=>exec_ok hC (lev_ok hC hX n) c⟩
theorem run_says(hC:Cok C Gp)(hX:Xok C Gp){n k:Nat}{vs:List SV}{v:SV}{H':Hs}(h:(lev C n).call k vs H0=some (v,H'))(hp:plV vs=true)(hp':v.pl=true)(hg:Gp w)(E:En):
  Enters C.P k/\CR C.P k (vs.map (SV.re E)) w fun V w'=>V=v.re E/\Hp w [] [] w':=by
 obtain⟨hE,hc⟩:=(lev_ok hC hX n).call k vs H0 v H' h w E w hg (inv_bare E 0 w) (plV_ok 0 hp);refine⟨hE,CR.mono hc ?_⟩
 rintro V w' ⟨E',g1,g2,g3,g4,rfl⟩
 exact⟨(sv_pl hp' 0 E' E).2,g3.hp.nil⟩
end
open Go.Wk Go.Px
open Go.Lib renaming join -> zaD
open List renaming flatMap_cons -> zar, length_append -> zae, length_map -> zax, map_cons -> zao, mem_cons_of_mem -> zat, mem_cons_self -> zav, rec -> zaO, take_of_length_le -> zaG
open Nat renaming add -> zaN, beq -> zai, ble -> zam, le_refl -> zab, mod -> zaY, mul_le_mul_right -> zak
open Option renaming rec -> zaj
open UInt8 renaming ofNat -> zaQ
theorem cvc_pl{v:Value}{x:SC}(h:cvc v=some x):x.pl=true:=by
 unfold cvc at h;split at h
 all_goals first|(cases h;rfl)|(obtain⟨_,h⟩:=aac h;cases h;rfl)|cases h
theorem cvs_pl:∀{vs:List Value} {l:List SC},cvs vs=some l->plL l=true
 |[],l,h=>by cases h;rfl
 |v::vs,l,h=>by
  obtain⟨x,h1,h⟩:=aab h;obtain⟨xs,h2,h⟩:=aab h;cases h
  show bi x.pl (plL xs) false=true;rw [cvc_pl h1,cvs_pl h2];rfl
theorem cv_pl{v:Value}{x:SV}(h:cv v=some x):x.pl=true:=by
 unfold cv at h;split at h
 ·obtain⟨xs,h1,h⟩:=aab h;cases h
  exact cvs_pl h1
 ·obtain⟨y,h1,h⟩:=aab h;cases h
  exact cvc_pl h1
noncomputable def cvl(l:List Value):Option (List SA):=zaO (some []) (fun v _ r=>ob (cv v) fun x=>ob x.sa fun a=>ob r fun q=>some (a::q)) l
noncomputable def cvT(l:List Value):Option SV:=ob (cvl l) fun q=>some (.t q)
theorem sa_pl'{x:SV}{a:SA}(h:x.sa=some a)(hp:x.pl=true):a.pl=true:=by
 cases x<;>first|(cases h;exact hp)|cases h
theorem cvl_ok(E:En):∀{l:List Value} {q:List SA},cvl l=some q->q.map (SA.re E)=l/\plT q=true
 |[],q,h=>by
  have e:[]=q:=Option.some.inj h;subst e;exact⟨rfl,rfl⟩
 |v::l,q,h=>by
  obtain⟨x,h1,h⟩:=aab h;obtain⟨a,h2,h⟩:=aab h;obtain⟨q',h3,h⟩:=aab h;cases h
  obtain⟨i1,i2⟩:=cvl_ok E (show cvl l=some q' from h3);refine⟨by rw [zao,i1,SV.sa_r h2,(ajb h1 E 0).1], ?_⟩
  show bi a.pl (plT q') false=true;rw [sa_pl' h2 (cv_pl h1),i2];rfl
theorem cvT_ok{l:List Value}{v:SV}(h:cvT l=some v)(E:En):v.re E=.tuple l.toArray/\v.pl=true:=by
 obtain⟨q,h1,h⟩:=aab h;cases h
 obtain⟨h2,h3⟩:=cvl_ok E h1;exact⟨by simp only [SV.re];rw [h2],h3⟩
noncomputable def xs2(f:Str->Str->Option SV)(vs:List SV)(H:Hs):Option (SV×Hs):=
 match vs with
 |[.c (.s l x),.c (.s m y)]=>ob (f (dec l x) (dec m y)) fun v=>some (v,H)
 |_=>none
noncomputable def xsb(f:Str->UInt8->Option SV)(vs:List SV)(H:Hs):Option (SV×Hs):=
 match vs with
 |[.c (.s l x),.c (.i .u8 n)]=>ob (f (dec l x) (zaQ n)) fun v=>some (v,H)
 |_=>none
noncomputable def xi(f:Int->Option SV)(vs:List SV)(H:Hs):Option (SV×Hs):=
 match vs with
 |[.c (.i .i64 n)]=>ob (f (ures .i64 (zaY n (km .i64)))) fun v=>some (v,H)
 |_=>none
noncomputable def cstOf(xs:List SC):Option (List Str):=zaO (some []) (fun x _ r=>ob x.asS fun q=>ob r fun l=>some (dec q.1 q.2::l)) xs
noncomputable def hcut(H:Hs)(i base n:Nat):Option (List SC):=ob (cellsOf ⟨.e,H,none⟩ i) fun xs=>bi (zam (zaN base n) (aid xs)) (some (ltake (ldrop xs base) n)) none
noncomputable def splR(et:Nat)(H:Hs)(r:List Str):Option (SV×Hs):=
 bi r.isEmpty none (some (.c (.sl H.nx (nat_lit 0) (aid r) (.r (nat_lit 0))),H.add (.cl et (.rw (nat_lit 1) (aid r)) (r.map fun a=>.s (aid a) (enc a)))))
noncomputable def xsplit(et:Nat)(vs:List SV)(H:Hs):Option (SV×Hs):=
 match vs with
 |[.c (.s l x),.c (.s m y)]=>bi (zai m (nat_lit 1)) (bi (zam l (nat_lit 1000000000)) (splR et H (spl (zaQ y) (dec l x))) none) none
 |_=>none
noncomputable def xjoin(vs:List SV)(H:Hs):Option (SV×Hs):=
 match vs with
 |[.c (.sl i base n c),.c (.s m y)]=>bi (capOk ⟨.e,H,none⟩ i n c) (ob (hcut H i base n) fun xs=>ob (cstOf xs) fun l=>bi (zam (aid l) (nat_lit 1000000000)) (bi (zam (aid (zaD l (dec m y))) (nat_lit 100000000000))
  (ob (cv (str (zaD l (dec m y)))) fun v=>some (v,H)) none) none) none
 |[.c .ns,.c (.s m y)]=>ob (cv (str [])) fun v=>some (v,H)
 |_=>none
noncomputable def xbix(vs:List SV)(H:Hs):Option (SV×Hs):=
 match vs with
 |[.c (.sl i base n c),.c (.sl j base' k c')]=>bi (capOk ⟨.e,H,none⟩ i n c) (ob (hcut H i base n) fun xs=>ob (encC xs) fun p=>ob (hcut H j base' k) fun ys=>ob (encC ys) fun q=>bi (zam n (nat_lit 1000000000)) (bi (zam k (nat_lit 1000000000))
  (ob (cv (.int .i64 (Lib.index (dec n p) (dec k q)))) fun v=>some (v,H)) none) none) none
 |[.c .ns,.c (.sl j base' k c')]=>bi (zam (nat_lit 2) k) (bi (zam k (nat_lit 1000000000)) (ob (cv (.int .i64 (-1))) fun v=>some (v,H)) none) none
 |_=>none
noncomputable def xccR(t i:Nat)(H:Hs)(a s:SC):Option (SV×Hs):=
 bi (zaj a.isPt (fun p=>bi (zai p.1 i) (zai p.2 (nat_lit 0)) false) a.asP) (some (.t [],H.upd i (.cl t .ex [.p i (nat_lit 0),s]))) none
noncomputable def xcc(t:Nat)(vs:List SV)(H:Hs):Option (SV×Hs):=
 match vs with
 |[.c (.p i o)]=>bi (zai o (nat_lit 0)) (ob (H.t.get i) fun b=>ob b.asC fun q=>bi (zai q.1 t) (bi (Mo.rec true (fun _ _=>false) false false q.2.1) (match q.2.2 with
  |[a,s]=>xccR t i H a s
  |_=>none) none) none) none
 |_=>none
section
variable {C : Cx} {Gp : World -> Prop} {w0 w : World} {E E' : En} {H : Hs} {k : Nat}
theorem ext_plain(hC:Cok C Gp)(hE:Enters C.P k){vs:List SV}{v:SV}(hp:v.pl=true)(hc:∀E w,Gp w->CR C.P k (vs.map (SV.re E)) w fun V w'=>V=v.re E/\Hp w [] [] w')(hg:Gp w0)(inv:Inv w0 E H w):
  Enters C.P k/\CR C.P k (vs.map (SV.re E)) w fun V w'=>∃E',Ag H.nx E E'/\H.nx<=H.nx/\Inv w0 E' H w'/\v.ok H.nx/\V=v.re E':=by
 refine⟨hE,CR.mono (hc E w (hC.gp hg inv.hp)) ?_⟩
 rintro V w' ⟨rfl,hp'⟩
 exact⟨E,Ag.refl _ _,zab _,⟨inv.hp.call hp',inv.lt,inv.ok⟩,(sv_pl hp _ E E).1,rfl⟩
theorem xs2_ok(hC:Cok C Gp)(hE:Enters C.P k){f:Str->Str->Option SV}(hf:∀a b v,f a b=some v->v.pl=true/\∀E w,Gp w->CR C.P k [str a,str b] w fun V w'=>V=v.re E/\Hp w [] [] w'):aew C Gp (xs2 f) k:=by
 intro vs H v H' hv w0 E w hg inv hok;unfold xs2 at hv;split at hv
 ·rename_i l x m y;obtain⟨u,h1,hv⟩:=aab hv;cases hv
  obtain⟨h2,h3⟩:=hf _ _ _ h1;exact ext_plain hC hE h2 (fun E w hw=>h3 E w hw) hg inv
 ·cases hv
theorem xsb_ok(hC:Cok C Gp)(hE:Enters C.P k){f:Str->UInt8->Option SV}(hf:∀a b v,f a b=some v->v.pl=true/\∀E w,Gp w->CR C.P k [str a,bt b] w fun V w'=>V=v.re E/\Hp w [] [] w'):aew C Gp (xsb f) k:=by
 intro vs H v H' hv w0 E w hg inv hok;unfold xsb at hv;split at hv
 ·rename_i l x n;obtain⟨u,h1,hv⟩:=aab hv;cases hv
  obtain⟨h2,h3⟩:=hf _ _ _ h1;refine ext_plain hC hE h2 (fun E w hw=> ?_) hg inv;have e:(SV.c (.i .u8 n)).re E=bt (zaQ n):=by
   show Value.int .u8 (IntKind.u8.wrap n)=Value.int .u8 ((zaQ n).toNat:Int);congr 1
  have:=h3 E w hw
  rw [<-e]at this;exact this
 ·cases hv
theorem xi_ok(hC:Cok C Gp)(hE:Enters C.P k){f:Int->Option SV}(hf:∀z v,f z=some v->v.pl=true/\∀E w,Gp w->(-9223372036854775808<=z/\z<=9223372036854775807)->CR C.P k [.int .i64 z] w fun V w'=>V=v.re E/\Hp w [] [] w'):aew C Gp (xi f) k:=by
 intro vs H v H' hv w0 E w hg inv hok;unfold xi at hv;split at hv
 ·rename_i n;obtain⟨u,h1,hv⟩:=aab hv;cases hv
  obtain⟨h2,h3⟩:=hf _ _ h1;refine ext_plain hC hE h2 (fun E w hw=> ?_) hg inv;have hlt:n%km .i64<18446744073709551616:=Nat.mod_lt _ (by decide);have hb: -9223372036854775808<=ures .i64 (n%km .i64)/\ures .i64 (n%km .i64)<=9223372036854775807:=by
   generalize n%km .i64=z at hlt⊢;rw [ures_eq];have e1:kh .i64=9223372036854775808:=rfl;have e2:km .i64=18446744073709551616:=rfl;rw [e2,e1];split
   ·omega
   ·constructor
    ·exact Int.le_trans (by decide) (Int.natCast_nonneg z)
    ·have:z<=9223372036854775807:=by omega
     exact Int.ofNat_le.2 this
  have:=h3 E w hw hb
  have e:(SV.c (.i .i64 n)).re E=.int .i64 (ures .i64 (n%km .i64)):=by
   show Value.int .i64 (IntKind.i64.wrap n)=_;rw [ajd]
  rw [show List.map (SV.re E) [SV.c (.i .i64 n)]=[(SV.c (.i .i64 n)).re E]from rfl,e];exact this
 ·cases hv
theorem row_call(inv:Inv w0 E H w){α:Type}{f:α->List Value}{e sz cap:Nat}{o:Option Nat}{a:Option Addr}{l:List α}{w':World}{xs:List SC}(hp:Hp w [] [rwt f e sz o a cap l] w')(hne:l≠[])(hx:xs.map (SC.re E)=l.flatMap f)
  (hok:∀x∈xs,x.ok H.nx) (hl:xs.length=l.length*sz):∃E',Ag H.nx E E'/\Inv w0 E' (H.add (.cl e (.rw sz l.length) xs)) w'/\Value.slice a l.length cap=(SV.c (.sl H.nx 0 l.length (.r 0))).re E':=by
 rcases(hp.res _ zav).1 with⟨_,h,_,_⟩|⟨g,cur,ho,ha,hob,h1,h2,h3,h4⟩
 ·exact absurd h hne
 ·subst ha;have ho':o=some g:=ho;subst ho';refine⟨eat E H.nx (g,cap),ahf _ _ _, ?_, ?_⟩
  ·refine inv.add (ahf _ _ _) (okUp hok) ?_;refine hp_weak (k:=0) (inv.hp.callL hp) rfl ?_ ?_
   ·simp only [resOf,cres,abu];rfl
   ·show(resOf (eat E H.nx (g,cap)) H.nx (.cl e (.rw sz l.length) xs)).holds w'
    unfold Res.holds;simp only [resOf,cres,abu];rw [scs_ext (ahf E H.nx _) hok,hx];have hxl:(l.flatMap f).length=l.length*sz:=by rw [<-hx,zax,hl]
    have hle:l.length*sz<=cap*sz:=zak _ h1;refine⟨cur,e,(0,0),hob,.inr rfl,by rw [hxl,h3];exact hle,by rw [hxl];exact h4,hxl,h1,h2,h3,rfl⟩
  ·simp only [SV.re,SC.re,abu,Cp.re,Nat.sub_zero]
theorem str_scs(E:En)(r:List Str):(r.map fun a=>SC.s (aid a) (enc a)).map (SC.re E)=r.flatMap eS:=by
 induction r with
 |nil=>rfl
 |cons a r ih=>
  rw [zao,zao,ih,zar];show str (dec (aid a) (enc a))::_=[str a]++_;rw [abm,dec_enc];rfl
theorem xsplit_ok(hC:Cok C Gp)(hE:Enters C.P k){et:Nat}(hf:∀s c w,Gp w->s.length<=1000000000->CR C.P k [str s,str [c]] w fun v w'=>∃o a cap,v=.slice a (spl c s).length cap/\Hp w [] [rwt eS et 1 o a cap (spl c s)] w'):aew C Gp (xsplit et) k:=by
 intro vs H v H' hv w0 E w hg inv hok;unfold xsplit at hv;split at hv
 ·rename_i l x m y;obtain⟨h1,hv1⟩:=aac hv;obtain⟨h2,hv2⟩:=aac hv1;clear hv hv1;rw [aak]at h1;have h1:m=1:=h1;subst h1;rw [aaj]at h2;unfold splR at hv2;generalize hr:spl (zaQ y) (dec l x)=r at hv2;rw [aaz]at hv2;split at hv2
  ·cases hv2
  ·rename_i hne;cases hv2
   have hne':r≠[]:=fun e=>hne (by rw [e];rfl)
   refine⟨hE, ?_⟩
   have e:[SV.c (.s l x),SV.c (.s 1 y)].map (SV.re E)=[str (dec l x),str [zaQ y]]:=by
    show [str (dec l x),str (dec 1 y)]=_
    have:dec 1 y=[zaQ y]:=by
     simp only [dec];congr 1
     apply UInt8.toNat_inj.1
     simp [UInt8.toNat_ofNat']
    rw [this]
   rw [e];refine CR.mono (hf (dec l x) (zaQ y) w (hC.gp hg inv.hp) (by rw [aby];exact h2)) ?_;rintro V w' ⟨o,a,cap,rfl,hp⟩
   rw [hr]at hp⊢;have hlen:(r.map fun a=>SC.s (aid a) (enc a)).length=r.length*1:=by simp
   obtain⟨E',g1,g2,g3⟩:=row_call inv hp hne' (str_scs E r) (fun x hx=>by obtain⟨a,_,rfl⟩:=List.mem_map.1 hx;trivial) hlen;refine⟨E',g1,Nat.le_succ _, ?_, ?_, ?_⟩
   ·rw [abm];exact g2
   ·show H.nx<H.nx+1;omega
   ·rw [abm];exact g3
 ·cases hv
theorem cst_ok(E:En):∀{xs:List SC} {l:List Str},cstOf xs=some l->xs.map (SC.re E)=l.flatMap eS
 |[],l,h=>by
  have e:[]=l:=Option.some.inj h;subst e;rfl
 |x::xs,l,h=>by
  obtain⟨q,h1,h⟩:=aab h;obtain⟨r,h2,h⟩:=aab h;cases h
  rw [asS_ok h1,zao,cst_ok E (show cstOf xs=some r from h2)];rfl
theorem flat_len:∀l:List Str,(l.flatMap eS).length=l.length
 |[]=>rfl
 |a::l=>by rw [zar,zae,flat_len l];simp [eS];omega
theorem hcut_rd(inv:Inv w0 E H w){i base n:Nat}{xs:List SC}(h:hcut H i base n=some xs):Rd w (some ⟨(E i).1,base,none⟩) (xs.map (SC.re E))/\xs.length=n:=by
 obtain⟨ys,h1,h⟩:=aab h;obtain⟨h2,h⟩:=aac h;cases h
 rw [aaj,abm]at h2;rw [aia,ldrop_eq];obtain⟨t,md,hb⟩:=cellsOf_ok h1;refine⟨fun j v hj=>⟨_,rfl, ?_⟩, ?_⟩
 ·rw [abb];rw [List.getElem?_map]at hj;obtain⟨x,hx,rfl⟩:=Option.map_eq_some_iff.1 hj;rw [List.getElem?_take]at hx;split at hx
  ·rw [List.getElem?_drop]at hx;exact inv.cell hb hx
  ·cases hx
 ·have h2:base+n<=ys.length:=h2;simp;omega
theorem xjoin_ok(hC:Cok C Gp)(hE:Enters C.P k) (hf:∀(t:Str) (w:World) (a:Option Addr) (n cap:Nat) (xs:List Str),n=xs.length->Rd w a (xs.flatMap eS)->n<=cap->xs.length<=1000000000/\(zaD xs t).length<=100000000000->
  CR C.P k [.slice a n cap,str t] w fun v w'=>v=str (zaD xs t)/\Hp w [] [] w'):aew C Gp xjoin k:=by
 intro vs H v H' hv w0 E w hg inv hok;unfold xjoin at hv;split at hv
 ·rename_i i base n c m y;obtain⟨h1,hv⟩:=aac hv;obtain⟨xs,h2,hv⟩:=aab hv;obtain⟨l,h3,hv⟩:=aab hv;obtain⟨h4,hv⟩:=aac hv;obtain⟨h5,hv⟩:=aac hv;obtain⟨u,h6,hv⟩:=aab hv;cases hv
  rw [aaj,abm]at h4 h5;refine⟨hE, ?_⟩
  obtain⟨r1,r2⟩:=hcut_rd inv h2;have e1:=cst_ok E h3;rw [e1]at r1;have e2:n=l.length:=by
   have:=congrArg List.length e1
   rw [zax,r2]at this;rw [this,flat_len]
  have hcap:n<=c.re E i:=by
   cases c with
   |k cc=>have h':zam n cc=true:=h1;rw [aaj]at h';exact h'
   |r off=>
    have hsd:Sd ⟨C.P,fun _=>none,C.X,C.pure,C.V⟩ ⟨0,none⟩ ⟨.e,H,none⟩ ⟨0,[],none⟩ w0 E w:=⟨rfl,inv,fun t v h=>(by rw [Tr.get_e]at h;cases h),fun g cs h=>(by cases h)⟩
    have:=room_ok hsd (show room ⟨.e,H,none⟩ i (off+n)=true from h1)
    show n<=(E i).2-off;omega
  refine CR.mono (hf (dec m y) w (some ⟨(E i).1,base,none⟩) n (c.re E i) l e2 r1 hcap ⟨h4,h5⟩) ?_;rintro V w' ⟨rfl,hp'⟩
  exact⟨E,Ag.refl _ _,zab _,⟨inv.hp.call hp',inv.lt,inv.ok⟩,(ajb h6 E _).2,(ajb h6 E 0).1.symm⟩
 ·rename_i m y;obtain⟨u,h6,hv⟩:=aab hv;cases hv
  refine⟨hE, ?_⟩
  refine CR.mono (hf (dec m y) w none 0 0 [] rfl (fun j v h=>by simp at h) (zab _) ⟨by simp,by simp [zaD]⟩) ?_;rintro V w' ⟨rfl,hp'⟩
  exact⟨E,Ag.refl _ _,zab _,⟨inv.hp.call hp',inv.lt,inv.ok⟩,(ajb h6 E _).2,(ajb h6 E 0).1.symm⟩
 ·cases hv
theorem capOk_re(inv:Inv w0 E H w){i n:Nat}{c:Cp}(h1:capOk ⟨.e,H,none⟩ i n c=true)(P:Program)(X:Nat->Option (List SV->Hs->Option (SV×Hs)))(pu:Nat->Bool):n<=c.re E i:=by
 cases c with
 |k cc=>have h':zam n cc=true:=h1;rw [aaj]at h';exact h'
 |r off=>
  have hsd:Sd ⟨P,fun _=>none,X,pu,pu⟩ ⟨0,none⟩ ⟨.e,H,none⟩ ⟨0,[],none⟩ w0 E w:=⟨rfl,inv,fun t v h=>(by rw [Tr.get_e]at h;cases h),fun g cs h=>(by cases h)⟩
  have:=room_ok hsd (show room ⟨.e,H,none⟩ i (off+n)=true from h1)
  show n<=(E i).2-off;omega
theorem xbix_ok(hC:Cok C Gp)(hE:Enters C.P k) (hf:∀(a1 a2:Addr) (n c1 m c2:Nat) (s t:Str) (w:World),s.length=n->t.length=m->Rd w (some a1) (s.map bt)->Rd w (some a2) (t.map bt)->n<=c1->n<=1000000000->m<=1000000000->Gp w->
  CR C.P k [.slice (some a1) n c1,.slice (some a2) m c2] w fun v w'=>v=.int .i64 (Lib.index s t)/\Hp w [] [] w')
  (hf0:∀(a:Option Addr) (m c:Nat) (w:World),2<=m->m<=1000000000->CR C.P k [.slice none 0 0,.slice a m c] w fun v w'=>v=.int .i64 (-1)/\Hp w [] [] w'):aew C Gp xbix k:=by
 intro vs H v H' hv w0 E w hg inv hok;unfold xbix at hv;split at hv
 ·rename_i i base n c j base' m c';obtain⟨h1,hv⟩:=aac hv;obtain⟨xs,h2,hv⟩:=aab hv;obtain⟨p,h3,hv⟩:=aab hv;obtain⟨ys,h4,hv⟩:=aab hv;obtain⟨q,h5,hv⟩:=aab hv;obtain⟨h6,hv⟩:=aac hv;obtain⟨h7,hv⟩:=aac hv;obtain⟨u,h8,hv⟩:=aab hv;cases hv
  rw [aaj]at h6 h7;refine⟨hE, ?_⟩
  obtain⟨r1,r2⟩:=hcut_rd inv h2;obtain⟨r3,r4⟩:=hcut_rd inv h4;rw [encC_ok h3 E,r2]at r1;rw [encC_ok h5 E,r4]at r3;have hcap:=capOk_re inv h1 C.P C.X C.pure;refine CR.mono (hf ⟨(E i).1,base,none⟩ ⟨(E j).1,base',none⟩ n (c.re E i) m (c'.re E j) (dec n p) (dec m q) w (aby _ _) (aby _ _) r1 r3 hcap h6 h7 (hC.gp hg inv.hp)) ?_;rintro V w' ⟨rfl,hp'⟩
  exact⟨E,Ag.refl _ _,zab _,⟨inv.hp.call hp',inv.lt,inv.ok⟩,(ajb h8 E _).2,(ajb h8 E 0).1.symm⟩
 ·rename_i j base' m c';obtain⟨h6,hv⟩:=aac hv;obtain⟨h7,hv⟩:=aac hv;obtain⟨u,h8,hv⟩:=aab hv;cases hv
  rw [aaj]at h6 h7;refine⟨hE, ?_⟩
  refine CR.mono (hf0 (some ⟨(E j).1,base',none⟩) m (c'.re E j) w h6 h7) ?_;rintro V w' ⟨rfl,hp'⟩
  exact⟨E,Ag.refl _ _,zab _,⟨inv.hp.call hp',inv.lt,inv.ok⟩,(ajb h8 E _).2,(ajb h8 E 0).1.symm⟩
 ·cases hv
theorem xcc_ok(hC:Cok C Gp)(hE:Enters C.P k){t:Nat} (hf:∀(b:Nat) (z:Bool) (s:Value) (w:World),Hp w (ahs [blk b [Value.pointer (bif z then some ⟨b,0,none⟩else none),s] t]) [blk b [Value.pointer (bif z then some ⟨b,0,none⟩else none),s] t] w->
  CR C.P k [Value.pointer (some ⟨b,0,none⟩)] w fun v w'=>v=.tuple #[]/\Hp w (ahs [blk b [Value.pointer (bif z then some ⟨b,0,none⟩else none),s] t]) [blk b [Value.pointer (some ⟨b,0,none⟩),s] t] w'):aew C Gp (xcc t) k:=by
 intro vs H v H' hv w0 E w hg inv hok;unfold xcc at hv;split at hv
 ·rename_i i o;obtain⟨h1,hv1⟩:=aac hv;obtain⟨b,h2,hv2⟩:=aab hv1;obtain⟨q,h3,hv3⟩:=aab hv2;obtain⟨h4,hv4⟩:=aac hv3;obtain⟨h5,hv5⟩:=aac hv4;clear hv hv1 hv2 hv3 hv4;obtain⟨t',md,xs⟩:=q;rw [hbC_ok h3]at h2;rw [aak]at h1 h4;have h1:o=0:=h1;have h4:t'=t:=h4;subst h1;subst h4;cases md with
  |rw sz mm=>cases h5
  |bw=>cases h5
  |fb=>cases h5
  |ex=>
   split at hv5
   ·rename_i a s hxs;have hxs:xs=[a,s]:=hxs;subst hxs;obtain⟨h6,h7⟩:=aac (show bi (zaj a.isPt (fun p=>bi (zai p.1 i) (zai p.2 0) false) a.asP) (some (SV.t [],H.upd i (.cl t' .ex [.p i 0,s]))) none=some (v,H')from hv5);cases h7
    have h2:H.t.get i=some (.cl t' .ex [a,s]):=h2;have hz:∃z:Bool,a.re E=Value.pointer (bif z then some ⟨(E i).1,0,none⟩else none):=by
     cases a<;>first|exact⟨false,rfl⟩|cases h6|skip
     obtain⟨g1,g2⟩:=bb2 h6;rw [aak]at g1 g2;have g1:_=i:=g1;have g2:_=0:=g2;subst g1;subst g2;exact⟨true,rfl⟩
    obtain⟨z,hz⟩:=hz;obtain⟨cur,tt,fz,c1,c2,c3,c4,c5⟩:=inv.cells h2;have ht:tt=t':=by
     rcases c2 with h|h
     ·cases h
     ·exact h
    subst ht;obtain⟨c6,c7⟩:=c5;subst c7;have hcur:cur=[a.re E,s.re E].toArray:=by
     apply Array.toList_inj.1
     have c6':cur.size=2:=c6
     have:=c4
     rw [zaG (by simp [c6'])]at this;rw [this];rfl
    rw [hcur,hz]at c1;have hst:=Hp.start1 c1;refine⟨hE,CR.mono (hf (E i).1 z (s.re E) w hst) ?_⟩
    rintro V w' ⟨rfl,hp2⟩
    have hi:=inv.lt i _ h2;have hp0:=inv.hp.front i _ (inv.at h2);have hp1:Hp w0 [] ([blk (E i).1 [Value.pointer (bif z then some ⟨(E i).1,0,none⟩else none),s.re E] tt]++(afe E H).eraseIdx i) w:=
     hp_weak (k:=0) (r':=blk (E i).1 [Value.pointer (bif z then some ⟨(E i).1,0,none⟩else none),s.re E] tt) hp0 rfl rfl (by show w.heap[(E i).1]? =_;exact c1)
    have hp3:=hp1.callK hp2;have hb3:w'.heap[(E i).1]? =some (.cells [Value.pointer (some ⟨(E i).1,0,none⟩),s.re E].toArray tt (0,0)):=(hp3.res _ zav).1;have hp4:Hp w0 [] (resOf E i (.cl tt .ex [.p i 0,s])::(afe E H).eraseIdx i) w':=
     hp_weak (k:=0) (r':=resOf E i (.cl tt .ex [.p i 0,s])) hp3 rfl rfl ⟨_,tt,(0,0),hb3,.inr rfl,by simp,by simp [SC.re],rfl,rfl⟩
    refine⟨E,Ag.refl _ _,zab _,inv.upd hi ?_ (Hp.perm hp4 (set_perm _ _ _ (by rw [ahc];exact hi)).symm),(fun x hx=>by cases hx),rfl⟩
    intro x hx;have hok2:=inv.ok i _ h2;rcases List.mem_cons.1 hx with rfl|hx
    ·exact hi
    ·exact hok2 x (zat _ hx)
   ·cases hv5
 ·cases hv
end
noncomputable def isT(r:Option (SV×Hs)):Bool:=zaj false (fun p=>SV.rec (fun x=>zaj false (fun b=>b) x.asB) (fun _=>false) (fun _=>false) false p.1) r
theorem isT_ok{r:Option (SV×Hs)}(h:isT r=true):∃H',r=some (.c (.b true),H'):=by
 cases r with
 |none=>cases h
 |some p=>
  obtain⟨v,H⟩:=p;cases v with
  |c x=>
   have h':(zaj false (fun b=>b) x.asB:Bool)=true:=h;cases hb:x.asB with
   |none=>rw [hb]at h';cases h'
   |some b=>
    rw [hb]at h';have h':b=true:=h';subst h';rw [asB_ok hb];exact⟨H,rfl⟩
  |_=>cases h
end Go.Ce
set_option maxRecDepth 20000
set_option maxHeartbeats 1000000
namespace Go.Wk
open Go.Px
open Int renaming toNat -> zah
def aef(fu:Nat)(a0:UInt8):Option Bool:=
 (((((if(97:UInt8)<=a0 then some (decide (a0<=(122:UInt8)))else some false)).bind fun(a1:Bool)=>(bif a1 then(bif a1 then some (.inr true)else some (.inl ()))else(((if(65:UInt8)<=a0 then some (decide (a0<=(90:UInt8)))else some false)).bind fun(a2:Bool)=>(bif a2 then(bif a2 then some (.inr true)else some (.inl ()))else(if(48:UInt8)<=a0 then(if a0<=(57:UInt8)then some (.inr true)else some (.inl ()))else some (.inl ()))))))).bind fun(a3:(Unit⊕Bool))=>Sum.elim (fun(a4:Unit)=>(if a0=(45:UInt8)then(if a0=(45:UInt8)then some true else some false)else(if a0=(46:UInt8)then(if a0=(46:UInt8)then some true else some false)else(if a0=(33:UInt8)then(if a0=(33:UInt8)then some true else some false)else(if a0=(37:UInt8)then(if a0=(37:UInt8)then some true else some false)else(if a0=(42:UInt8)then(if a0=(42:UInt8)then some true else some false)else(if a0=(95:UInt8)then(if a0=(95:UInt8)then some true else some false)else(if a0=(43:UInt8)then(if a0=(43:UInt8)then some true else some false)else(if a0=(39:UInt8)then(if a0=(39:UInt8)then some true else some false)else(if a0=(126:UInt8)then(if a0=(126:UInt8)then some true else some false)else(if a0=(96:UInt8)then some true else some false))))))))))) (fun q=>some q) a3)
def aba(fu:Nat)(a1:Str)(a2:Int->Option Int)(a0:Int):Option Int:=
 (((if a0<(a1.length:Int)then(gd (0<=a0/\a0<(a1.length:Int))<|((aef fu (at_ a1 a0)).bind fun(a3:Bool)=>some a3))else some false)).bind fun(a4:Bool)=>(bif a4 then(gd (afr (a0+(1:Int)))<|(a2 (a0+(1:Int))))else some a0))
def abd(fu:Nat)(a1:Str):Nat->Int->Option Int:=fun k_ a0=>loopF (fun(g:Int->Option Int) v=>aba fu a1 (fun a0=>g a0) v) k_ a0
theorem ace{fu:Nat}{a0:Str}{k_:Nat}{a1:Int}:abd fu a0 (k_+1) a1=aba fu a0 (abd fu a0 k_) a1:=rfl
def abt(fu:Nat)(a0:Str)(a1:Int):Option Int:=
 (((abd fu a0 fu (min (max a1 (0:Int)) (a0.length:Int)))).bind fun(a2:Int)=>some a2)
def agn(fu:Nat)(a0:Str)(a1:Int):Option Int:=
 ((abt fu a0 a1).bind fun(y1:Int)=>some y1)
def ahn(fu:Nat)(a0:Str):Option Bool:=
 (((if a0=([]:Str)then some false else((agn fu a0 (0:Int)).bind fun(a1:Int)=>some (decide (a1=(a0.length:Int)))))).bind fun(a2:Bool)=>some a2)
def aci(fu:Nat)(a0:UInt8):Option UInt8:=
 (((if(65:UInt8)<=a0 then some (decide (a0<=(90:UInt8)))else some false)).bind fun(v5:Bool)=>(bif v5 then some (a0+(32:UInt8))else some a0))
def aev(fu:Nat)(a0:UInt8):Option Str:=
 (if a0=(98:UInt8)then some ([82,101,102,101,114,114,101,100,45,66,121]:Str)else(if a0=(99:UInt8)then some ([67,111,110,116,101,110,116,45,84,121,112,101]:Str)else(if a0=(101:UInt8)then some ([67,111,110,116,101,110,116,45,69,110,99,111,100,105,110,103]:Str)else(if a0=(102:UInt8)then some ([70,114,111,109]:Str)else(if a0=(105:UInt8)then some ([67,97,108,108,45,73,68]:Str)else(if a0=(107:UInt8)then some ([83,117,112,112,111,114,116,101,100]:Str)else(if a0=(108:UInt8)then some ([67,111,110,116,101,110,116,45,76,101,110,103,116,104]:Str)else(if a0=(109:UInt8)then some ([67,111,110,116,97,99,116]:Str)else(if a0=(111:UInt8)then some ([69,118,101,110,116]:Str)else(if a0=(114:UInt8)then some ([82,101,102,101,114,45,84,111]:Str)else(if a0=(115:UInt8)then some ([83,117,98,106,101,99,116]:Str)else(if a0=(116:UInt8)then some ([84,111]:Str)else(if a0=(117:UInt8)then some ([65,108,108,111,119,45,69,118,101,110,116,115]:Str)else(if a0=(118:UInt8)then some ([86,105,97]:Str)else(if a0=(120:UInt8)then some ([83,101,115,115,105,111,110,45,69,120,112,105,114,101,115]:Str)else some ([]:Str))))))))))))))))
def aau(fu:Nat)(a2:Str)(a3:Str->Int->Option Str)(a1:Str)(a0:Int):Option Str:=
 (if a0<(a2.length:Int)then(gd (0<=a0/\a0<(a1.length:Int))<|(gd (0<=a0/\a0<(a1.length:Int))<|((aci fu (at_ a1 a0)).bind fun(a4:UInt8)=>(gd (0<=a0/\a0<(a1.length:Int))<|(gd (0<=a0/\a0<(a1.length:Int))<|(gd (afr (a0+(1:Int)))<|(a3 (List.set a1 (zah a0) a4) (a0+(1:Int)))))))))else some a1)
def aav(fu:Nat)(a2:Str):Nat->Str->Int->Option Str:=fun k_ a0 a1=>loopF (fun(g:(Str×Int)->Option Str) v=>aau fu a2 (fun a0 a1=>g (a0,a1)) v.1 v.2) k_ (a0,a1)
theorem abw{fu:Nat}{a0:Str}{k_:Nat}{a1:Str}{a2:Int}:aav fu a0 (k_+1) a1 a2=aau fu a0 (aav fu a0 k_) a1 a2:=rfl
def aat(fu:Nat)(a0:Str):Option Str:=
 (((aav fu a0 fu a0 (0:Int))).bind fun(a1:Str)=>some a1)
def ahp(fu:Nat)(a0:UInt8):Option UInt8:=
 (((if(97:UInt8)<=a0 then some (decide (a0<=(122:UInt8)))else some false)).bind fun(v5:Bool)=>(bif v5 then some (a0-(32:UInt8))else some a0))
open List renaming replicate -> zag
def afg(fu:Nat)(a0:UInt8)(a1:Bool):Option (UInt8×Bool):=
 (bif a1 then((ahp fu a0).bind fun(y2:UInt8)=>some (y2,(decide (y2=(45:UInt8)))))else((aci fu a0).bind fun(y9:UInt8)=>some (y9,(decide (y9=(45:UInt8))))))
def aaw(fu:Nat)(a4:Str)(a5:Str->Int->Bool->Option (Str×Bool))(a1:Str)(a0:Int)(a2:Bool):Option (Str×Bool):=
 (if a0<(a4.length:Int)then(gd (0<=a0/\a0<(a1.length:Int))<|(gd (0<=a0/\a0<(a1.length:Int))<|((afg fu (at_ a1 a0) a2).bind fun(a3:(UInt8×Bool))=>(gd (0<=a0/\a0<(a1.length:Int))<|(gd (0<=a0/\a0<(a1.length:Int))<|(gd (afr (a0+(1:Int)))<|(a5 (List.set a1 (zah a0) a3.1) (a0+(1:Int)) a3.2)))))))else some (a1,a2))
def aay(fu:Nat)(a3:Str):Nat->Str->Int->Bool->Option (Str×Bool):=fun k_ a0 a1 a2=>loopF (fun(g:(Str×Int×Bool)->Option (Str×Bool)) v=>aaw fu a3 (fun a0 a1 a2=>g (a0,a1,a2)) v.1 v.2.1 v.2.2) k_ (a0,a1,a2)
theorem abz{fu:Nat}{a0:Str}{k_:Nat}{a1:Str}{a2:Int}{a3:Bool}:aay fu a0 (k_+1) a1 a2 a3=aaw fu a0 (aay fu a0 k_) a1 a2 a3:=rfl
def aax(fu:Nat)(a0:Str)(a2:Bool):Option (Str×Bool):=
 (((aay fu a0 fu a0 (0:Int) a2)).bind fun(a1:(Str×Bool))=>some (a1.1,a1.2))
def agu(fu:Nat)(a1:Str)(a2:Int->Option (Unit⊕(Str×UInt8)))(a0:Int):Option (Unit⊕(Str×UInt8)):=
 (if a0<(7:Int)then(gd (0<=a0/\a0<(ada.length:Int))<|((aat fu (el ada a0)).bind fun(a3:Str)=>(if a3=a1 then some (.inr (el ada a0,(0:UInt8)))else(gd (afr (a0+(1:Int)))<|(a2 (a0+(1:Int)))))))else some (.inl ()))
def abv(fu:Nat)(a1:Str):Nat->Int->Option (Unit⊕(Str×UInt8)):=fun k_ a0=>loopF (fun(g:Int->Option (Unit⊕(Str×UInt8))) v=>agu fu a1 (fun a0=>g a0) v) k_ a0
theorem L_header_Canon_lp0_s{fu:Nat}{a0:Str}{k_:Nat}{a1:Int}:abv fu a0 (k_+1) a1=agu fu a0 (abv fu a0 k_) a1:=rfl
def acu(fu:Nat)(a0:Str):Option (Str×UInt8):=
 ((((ahn fu a0).bind fun(a2:Bool)=>(bif (!a2)then some true else some (decide ((64:Int)<(a0.length:Int)))))).bind fun(a3:Bool)=>(bif a3 then some (([]:Str),(5:UInt8))else(((if(a0.length:Int)=(1:Int)then(gd (0<=(0:Int)/\(0:Int)<(a0.length:Int))<|((aci fu (at_ a0 (0:Int))).bind fun(a4:UInt8)=>((aev fu a4).bind fun(a1:Str)=>(if a1=([]:Str)then some (.inl ())else some (.inr (a1,(0:UInt8)))))))else some (.inl ()))).bind fun(a5:(Unit⊕(Str×UInt8)))=>Sum.elim (fun(a9:Unit)=>((aat fu a0).bind fun(a6:Str)=>(((abv fu a6 fu (0:Int))).bind fun(a7:(Unit⊕(Str×UInt8)))=>Sum.elim (fun(b0:Unit)=>((aax fu a0 true).bind fun(a8:(Str×Bool))=>some (a8.1,(0:UInt8)))) (fun q=>some q) a7))) (fun q=>some q) a5)))
def aca(fu:Nat)(a0:Str):Option (UInt8×Str):=
 ((acu fu a0).bind fun(y1:(Str×UInt8))=>some (y1.2,y1.1))
def acq(fu:Nat)(a0:(Str×Str))(a1:UInt8)(a2:Str):Option Bool:=
 ((acu fu a0.1).bind fun(y4:(Str×UInt8))=>(((if a1=(0:UInt8)then(if y4.2=(0:UInt8)then some (decide (y4.1=a2))else some false)else some false)).bind fun(a3:Bool)=>some a3))
def aam(fu:Nat)(a1:List (Str×Str))(a2:UInt8)(a3:Str)(a4:Int->Option (Unit⊕Int))(a0:Int):Option (Unit⊕Int):=
 (if a0<(a1.length:Int)then(gd (0<=a0/\a0<(a1.length:Int))<|(gd (0<=a0/\a0<(a1.length:Int))<|((acq fu (el a1 a0) a2 a3).bind fun(a5:Bool)=>(bif a5 then some (.inr a0)else(gd (afr (a0+(1:Int)))<|(a4 (a0+(1:Int))))))))else some (.inl ()))
def aai(fu:Nat)(a1:List (Str×Str))(a2:UInt8)(a3:Str):Nat->Int->Option (Unit⊕Int):=fun k_ a0=>loopF (fun(g:Int->Option (Unit⊕Int)) v=>aam fu a1 a2 a3 (fun a0=>g a0) v) k_ a0
theorem abf{fu:Nat}{a0:List (Str×Str)}{a1:UInt8}{a2:Str}{k_:Nat}{a3:Int}:aai fu a0 a1 a2 (k_+1) a3=aam fu a0 a1 a2 (aai fu a0 a1 a2 k_) a3:=rfl
def aae(fu:Nat)(a0:List (Str×Str))(a1:UInt8)(a2:Str):Option Int:=
 (((aai fu a0 a1 a2 fu (0:Int))).bind fun(a3:(Unit⊕Int))=>Sum.elim (fun(a4:Unit)=>some (-1:Int)) (fun q=>some q) a3)
def adb(fu:Nat)(a0:(Str×Str×Int×Str×(List (Str×Str))×(List UInt8))):Option (Str×Str×Int×Str×(List (Str×Str))×(List UInt8)):=
 (@gd _ (0<=(a0.2.2.2.2.1.length:Int)/\(32:Int)*(a0.2.2.2.2.1.length:Int)<=281474976710656) (dMk 32 (a0.2.2.2.2.1.length:Int))<|(gd ((0+a0.2.2.2.2.2.length)*1<=140737488355328)<|some (a0.1,a0.2.1,a0.2.2.1,a0.2.2.2.1,cpy (zag (zah (a0.2.2.2.2.1.length:Int)) (([]:Str),([]:Str))) a0.2.2.2.2.1,a0.2.2.2.2.2)))
def aal(fu:Nat)(a4:UInt8)(a5:Str)(a3:(List (Str×Str))->Int->Int->Option ((List (Str×Str))×Int))(a1:List (Str×Str))(a2:Int)(a0:Int):Option ((List (Str×Str))×Int):=
 (if a0<(a1.length:Int)then(gd (0<=a0/\a0<(a1.length:Int))<|(gd (0<=a0/\a0<(a1.length:Int))<|((acq fu (el a1 a0) a4 a5).bind fun(a6:Bool)=>(bif (!a6)then(gd (0<=a2/\a2<(a1.length:Int))<|(gd (0<=a2/\a2<(a1.length:Int))<|(gd (afr (a2+(1:Int)))<|(gd (afr (a0+(1:Int)))<|(a3 (List.set a1 (zah a2) (el a1 a0)) (a2+(1:Int)) (a0+(1:Int)))))))else(gd (afr (a0+(1:Int)))<|(a3 a1 a2 (a0+(1:Int))))))))else some (a1,a2))
def aag(fu:Nat)(a3:UInt8)(a4:Str):Nat->(List (Str×Str))->Int->Int->Option ((List (Str×Str))×Int):=fun k_ a0 a1 a2=>loopF (fun(g:((List (Str×Str))×Int×Int)->Option ((List (Str×Str))×Int)) v=>aal fu a3 a4 (fun a0 a1 a2=>g (a0,a1,a2)) v.1 v.2.1 v.2.2) k_ (a0,a1,a2)
theorem abc{fu:Nat}{a0:UInt8}{a1:Str}{k_:Nat}{a2:List (Str×Str)}{a3:Int}{a4:Int}:aag fu a0 a1 (k_+1) a2 a3 a4=aal fu a0 a1 (aag fu a0 a1 k_) a2 a3 a4:=rfl
def aaq(fu:Nat)(a1:List (Str×Str))(a2:UInt8)(a3:Str):Option (List (Str×Str)):=
 ((aae fu a1 a2 a3).bind fun(y1:Int)=>(if y1=(-1:Int)then some a1 else(((gd (afr (y1+(1:Int)))<|(aag fu a2 a3 fu a1 y1 (y1+(1:Int))))).bind fun(a0:((List (Str×Str))×Int))=>(gd (0<=a0.2/\a0.2<=(a0.1.length:Int))<|(gd (0<=a0.2/\a0.2<=((clr a0.1 (zah a0.2) (([]:Str),([]:Str))).length:Int))<|some (List.take (zah a0.2) (clr a0.1 (zah a0.2) (([]:Str),([]:Str)))))))))
def afk(fu:Nat)(a1:(Str×Str×Int×Str×(List (Str×Str))×(List UInt8)))(a2:Str):Option (Str×Str×Int×Str×(List (Str×Str))×(List UInt8)):=
 ((adb fu a1).bind fun(y7:(Str×Str×Int×Str×(List (Str×Str))×(List UInt8)))=>((aca fu a2).bind fun(a0:(UInt8×Str))=>((aaq fu y7.2.2.2.2.1 a0.1 a0.2).bind fun(a3:List (Str×Str))=>some (y7.1,y7.2.1,y7.2.2.1,y7.2.2.2.1,a3,y7.2.2.2.2.2))))
def afj(fu:Nat)(a0:Str):Option Str:=
 ((acu fu a0).bind fun(y1:(Str×UInt8))=>(if y1.2=(0:UInt8)then some y1.1 else some a0))
def ahm(fu:Nat)(a3:(Str×Str×Int×Str×(List (Str×Str))×(List UInt8)))(a1:Str)(a5:Str):Option (Str×Str×Int×Str×(List (Str×Str))×(List UInt8)):=
 ((aca fu a1).bind fun(y7:(UInt8×Str))=>((aae fu a3.2.2.2.2.1 y7.1 y7.2).bind fun(a4:Int)=>((afk fu a3 a1).bind fun(a0:(Str×Str×Int×Str×(List (Str×Str))×(List UInt8)))=>(((if a4<(0:Int)then some (a0.2.2.2.2.1.length:Int)else some a4)).bind fun(a2:Int)=>((afj fu a1).bind fun(a6:Str)=>(gd (0<=a2/\a2<=(a0.2.2.2.2.1.length:Int)/\(a0.2.2.2.2.1.length+1)*32<=140737488355328)<|some (a0.1,a0.2.1,a0.2.2.1,a0.2.2.2.1,aig a0.2.2.2.2.1 a2 (a6,a5),a0.2.2.2.2.2)))))))
def agl(fu:Nat)(a2:(Str×Str×Int×Str×(List (Str×Str))×(List UInt8)))(a3:Str)(a4:Str):Option (Str×Str×Int×Str×(List (Str×Str))×(List UInt8)):=
 ((aca fu a3).bind fun(y7:(UInt8×Str))=>((aae fu a2.2.2.2.2.1 y7.1 y7.2).bind fun(a1:Int)=>((adb fu a2).bind fun(a0:(Str×Str×Int×Str×(List (Str×Str))×(List UInt8)))=>((afj fu a3).bind fun(a5:Str)=>(gd (0<=(max a1 (0:Int))/\(max a1 (0:Int))<=(a0.2.2.2.2.1.length:Int)/\(a0.2.2.2.2.1.length+1)*32<=140737488355328)<|some (a0.1,a0.2.1,a0.2.2.1,a0.2.2.2.1,aig a0.2.2.2.2.1 (max a1 (0:Int)) (a5,a4),a0.2.2.2.2.2))))))
def adi(fu:Nat)(a1:Str)(a2:Int->Option (Unit⊕Int))(a0:Int):Option (Unit⊕Int):=
 (if a0<(31:Int)then(gd (0<=a0/\a0<(31:Int))<|(gd (0<=a0/\a0<(acn.length:Int))<|(if((el acn a0).1)=a1 then(gd (0<=a0/\a0<(31:Int))<|(gd (0<=a0/\a0<(acn.length:Int))<|some (.inr ((el acn a0).2))))else(gd (afr (a0+(1:Int)))<|(a2 (a0+(1:Int)))))))else some (.inl ()))
def adu(fu:Nat)(a1:Str):Nat->Int->Option (Unit⊕Int):=fun k_ a0=>loopF (fun(g:Int->Option (Unit⊕Int)) v=>adi fu a1 (fun a0=>g a0) v) k_ a0
theorem afw{fu:Nat}{a0:Str}{k_:Nat}{a1:Int}:adu fu a0 (k_+1) a1=adi fu a0 (adu fu a0 k_) a1:=rfl
def afx(fu:Nat)(a0:Str):Option Int:=
 (((adu fu a0 fu (0:Int))).bind fun(a1:(Unit⊕Int))=>Sum.elim (fun(a2:Unit)=>some (0:Int)) (fun q=>some q) a1)
def aeh(fu:Nat)(a0:Str):Option Bool:=
 (((if a0=([67,111,110,116,97,99,116]:Str)then(if a0=([67,111,110,116,97,99,116]:Str)then some (.inr true)else some (.inl ()))else(if a0=([80,97,116,104]:Str)then(if a0=([80,97,116,104]:Str)then some (.inr true)else some (.inl ()))else(if a0=([82,101,99,111,114,100,45,82,111,117,116,101]:Str)then(if a0=([82,101,99,111,114,100,45,82,111,117,116,101]:Str)then some (.inr true)else some (.inl ()))else(if a0=([82,111,117,116,101]:Str)then(if a0=([82,111,117,116,101]:Str)then some (.inr true)else some (.inl ()))else(if a0=([83,101,114,118,105,99,101,45,82,111,117,116,101]:Str)then some (.inr true)else some (.inl ()))))))).bind fun(a2:(Unit⊕Bool))=>Sum.elim (fun(a4:Unit)=>((afx fu a0).bind fun(a1:Int)=>(((if a1=(2:Int)then some true else some (decide (a1=(7:Int))))).bind fun(a3:Bool)=>some a3))) (fun q=>some q) a2)
def agd(fu:Nat)(a0:Str):Option Bool:=
 ((acu fu a0).bind fun(y1:(Str×UInt8))=>(((if y1.2=(0:UInt8)then((aeh fu y1.1).bind fun(a1:Bool)=>some a1)else some false)).bind fun(a2:Bool)=>some a2))
def acx(fu:Nat)(a0:UInt8):Option Bool:=
 (((if a0=(32:UInt8)then some true else some (decide (a0=(9:UInt8))))).bind fun(v5:Bool)=>some v5)
open List renaming drop -> zaE
def adg(fu:Nat)(a0:UInt8):Option Bool:=
 (((if(32:UInt8)<=a0 then some (decide (a0<=(126:UInt8)))else some false)).bind fun(v5:Bool)=>some v5)
def adh(fu:Nat)(a0:UInt8):Option Bool:=
 (((if a0<(32:UInt8)then(if a0=(9:UInt8)then some (decide (a0=(127:UInt8)))else some true)else some (decide (a0=(127:UInt8))))).bind fun(v6:Bool)=>some v6)
def acj(fu:Nat)(a1:Str)(a3:(List UInt8)->Int->Option (((List UInt8)×Int)⊕(Str×Int×UInt8)))(a2:List UInt8)(a0:Int):Option (((List UInt8)×Int)⊕(Str×Int×UInt8)):=
 (if a0<(a1.length:Int)then(gd (0<=a0/\a0<(a1.length:Int))<|(if(at_ a1 a0)=(34:UInt8)then some (.inl (a2,a0))else(if(at_ a1 a0)=(92:UInt8)then(gd (afr (a0+(1:Int)))<|(if(a0+(1:Int))=(a1.length:Int)then some (.inr (([]:Str),(a1.length:Int),(6:UInt8)))else(gd (afr (a0+(1:Int)))<|(gd (0<=(a0+(1:Int))/\(a0+(1:Int))<(a1.length:Int))<|((adg fu (at_ a1 (a0+(1:Int)))).bind fun(a4:Bool)=>(bif (!a4)then some (.inr (([]:Str),a0,(5:UInt8)))else(gd (afr (a0+(1:Int)))<|(gd (0<=(a0+(1:Int))/\(a0+(1:Int))<(a1.length:Int))<|(gd ((a2.length+([at_ a1 (a0+(1:Int))]:List UInt8).length)*1<=140737488355328)<|(gd (afr ((a0+(1:Int))+(1:Int)))<|(a3 (a2++([at_ a1 (a0+(1:Int))]:List UInt8)) ((a0+(1:Int))+(1:Int)))))))))))))else((adh fu (at_ a1 a0)).bind fun(a5:Bool)=>(bif a5 then some (.inr (([]:Str),a0,(5:UInt8)))else(gd (0<=a0/\a0<(a1.length:Int))<|(gd ((a2.length+([at_ a1 a0]:List UInt8).length)*1<=140737488355328)<|(gd (afr (a0+(1:Int)))<|(a3 (a2++([at_ a1 a0]:List UInt8)) (a0+(1:Int)))))))))))else some (.inl (a2,a0)))
def ads(fu:Nat)(a2:Str):Nat->(List UInt8)->Int->Option (((List UInt8)×Int)⊕(Str×Int×UInt8)):=fun k_ a0 a1=>loopF (fun(g:((List UInt8)×Int)->Option (((List UInt8)×Int)⊕(Str×Int×UInt8))) v=>acj fu a2 (fun a0 a1=>g (a0,a1)) v.1 v.2) k_ (a0,a1)
theorem aeg{fu:Nat}{a0:Str}{k_:Nat}{a1:List UInt8}{a2:Int}:ads fu a0 (k_+1) a1 a2=acj fu a0 (ads fu a0 k_) a1 a2:=rfl
def afv(fu:Nat)(a1:Str)(a0:Int):Option (Str×Int×UInt8):=
 (((if a0<(0:Int)then some true else some (decide ((a1.length:Int)<a0)))).bind fun(v5:Bool)=>(bif v5 then some (([]:Str),(0:Int),(2:UInt8))else(((if a0=(a1.length:Int)then some true else(gd (0<=a0/\a0<(a1.length:Int))<|some (!decide ((at_ a1 a0)=(34:UInt8)))))).bind fun(a3:Bool)=>(bif a3 then some (([]:Str),a0,(5:UInt8))else(gd (afr (a0+(1:Int)))<|(((ads fu a1 fu ([]:List UInt8) (a0+(1:Int)))).bind fun(a4:(((List UInt8)×Int)⊕(Str×Int×UInt8)))=>Sum.elim (fun(a2:((List UInt8)×Int))=>(if(a1.length:Int)<=a2.2 then some (([]:Str),(a1.length:Int),(6:UInt8))else(gd (afr (a2.2+(1:Int)))<|some (a2.1,a2.2+(1:Int),(0:UInt8))))) (fun q=>some q) a4))))))
def aas(fu:Nat)(a1:Str)(a2:Int->Option Int)(a0:Int):Option Int:=
 (((if a0<(a1.length:Int)then(gd (0<=a0/\a0<(a1.length:Int))<|((acx fu (at_ a1 a0)).bind fun(a3:Bool)=>some a3))else some false)).bind fun(a4:Bool)=>(bif a4 then(gd (afr (a0+(1:Int)))<|(a2 (a0+(1:Int))))else some a0))
def abe(fu:Nat)(a1:Str):Nat->Int->Option Int:=fun k_ a0=>loopF (fun(g:Int->Option Int) v=>aas fu a1 (fun a0=>g a0) v) k_ a0
theorem abq{fu:Nat}{a0:Str}{k_:Nat}{a1:Int}:abe fu a0 (k_+1) a1=aas fu a0 (abe fu a0 k_) a1:=rfl
def acd(fu:Nat)(a0:Str)(a1:Int):Option Int:=
 (((abe fu a0 fu (min (max a1 (0:Int)) (a0.length:Int)))).bind fun(a2:Int)=>some a2)
def agm(fu:Nat)(a0:Str)(a1:Int):Option Int:=
 ((acd fu a0 a1).bind fun(y1:Int)=>some y1)
def agc(fu:Nat)(a1:Str)(a2:Int)(a0:Int):Option (Int×Str):=
 ((agm fu a1 a2).bind fun(y4:Int)=>(gd (0<=(min y4 a0)/\(min y4 a0)<=a0/\a0<=(a1.length:Int))<|(gd ((sub a1 (min y4 a0) a0).length<=1000000000)<|gd (([32,9]:Str).length<=1000/\([32,9]:Str).all (fun b=>decide (b.toNat<128))=true)<|some (min y4 a0,Lib.trimRightS (sub a1 (min y4 a0) a0) ([32,9]:Str)))))
def acy(fu:Nat)(a1:Str)(a7:UInt8)(a4:(List (Int×Str))->Int->Int->Option (((List (Int×Str))×Int)⊕((List (Int×Str))×Int×UInt8)))(a2:List (Int×Str))(a3:Int)(a0:Int):Option (((List (Int×Str))×Int)⊕((List (Int×Str))×Int×UInt8)):=
 (if a0<(a1.length:Int)then(gd (0<=a0/\a0<(a1.length:Int))<|(if(at_ a1 a0)=(34:UInt8)then((afv fu a1 a0).bind fun(a5:(Str×Int×UInt8))=>(if a5.2.2=(0:UInt8)then(a4 a2 a3 a5.2.1)else some (.inr (([]:List (Int×Str)),a5.2.1,a5.2.2))))else(if(at_ a1 a0)=(60:UInt8)then(gd (0<=a0/\a0<=(a1.length:Int))<|(if(ixb (·==(62:UInt8)) (zaE (zah a0) a1))<(0:Int)then some (.inr (([]:List (Int×Str)),(a1.length:Int),(6:UInt8)))else(gd (afr ((ixb (·==(62:UInt8)) (zaE (zah a0) a1))+(1:Int)))<|(gd (afr (a0+((ixb (·==(62:UInt8)) (zaE (zah a0) a1))+(1:Int))))<|(a4 a2 a3 (a0+((ixb (·==(62:UInt8)) (zaE (zah a0) a1))+(1:Int))))))))else(if(at_ a1 a0)=(62:UInt8)then some (.inr (([]:List (Int×Str)),a0,(5:UInt8)))else(if(at_ a1 a0)=a7 then((agc fu a1 a3 a0).bind fun(a6:(Int×Str))=>(gd ((a2.length+([a6]:List (Int×Str)).length)*24<=140737488355328)<|(gd (afr (a0+(1:Int)))<|(a4 (a2++([a6]:List (Int×Str))) (a0+(1:Int)) (a0+(1:Int))))))else(gd (afr (a0+(1:Int)))<|(a4 a2 a3 (a0+(1:Int)))))))))else some (.inl (a2,a3)))
def adn(fu:Nat)(a3:Str)(a4:UInt8):Nat->(List (Int×Str))->Int->Int->Option (((List (Int×Str))×Int)⊕((List (Int×Str))×Int×UInt8)):=fun k_ a0 a1 a2=>loopF (fun(g:((List (Int×Str))×Int×Int)->Option (((List (Int×Str))×Int)⊕((List (Int×Str))×Int×UInt8))) v=>acy fu a3 a4 (fun a0 a1 a2=>g (a0,a1,a2)) v.1 v.2.1 v.2.2) k_ (a0,a1,a2)
theorem afc{fu:Nat}{a0:Str}{a1:UInt8}{k_:Nat}{a2:List (Int×Str)}{a3:Int}{a4:Int}:adn fu a0 a1 (k_+1) a2 a3 a4=acy fu a0 a1 (adn fu a0 a1 k_) a2 a3 a4:=rfl
def aho(fu:Nat)(a1:Str)(a0:UInt8):Option ((List (Int×Str))×Int×UInt8):=
 ((((acx fu a0).bind fun(a4:Bool)=>(bif a4 then some true else(if a0=(34:UInt8)then some true else(if a0=(60:UInt8)then some true else some (decide (a0=(62:UInt8)))))))).bind fun(a5:Bool)=>(bif a5 then some (([]:List (Int×Str)),(0:Int),(2:UInt8))else(((adn fu a1 a0 fu ([]:List (Int×Str)) (0:Int) (0:Int))).bind fun(a6:(((List (Int×Str))×Int)⊕((List (Int×Str))×Int×UInt8)))=>Sum.elim (fun(a2:((List (Int×Str))×Int))=>((agc fu a1 a2.2 (a1.length:Int)).bind fun(a3:(Int×Str))=>(gd ((a2.1.length+([a3]:List (Int×Str)).length)*24<=140737488355328)<|some (a2.1++([a3]:List (Int×Str)),(0:Int),(0:UInt8))))) (fun q=>some q) a6)))
def aei(fu:Nat)(y1:((List (Int×Str))×Int×UInt8))(a2:(List Str)->Int->Option ((List Str)⊕((List Str)×UInt8)))(a1:List Str)(a0:Int):Option ((List Str)⊕((List Str)×UInt8)):=
 (if a0<(y1.1.length:Int)then(gd (0<=a0/\a0<(y1.1.length:Int))<|(gd (0<=a0/\a0<(y1.1.length:Int))<|(if((el y1.1 a0).2)=([]:Str)then some (.inr (([]:List Str),(5:UInt8)))else(gd ((a1.length+([(el y1.1 a0).2]:List Str).length)*16<=140737488355328)<|(gd (afr (a0+(1:Int)))<|(a2 (a1++([(el y1.1 a0).2]:List Str)) (a0+(1:Int))))))))else some (.inl a1))
def ado(fu:Nat)(y1:((List (Int×Str))×Int×UInt8)):Nat->(List Str)->Int->Option ((List Str)⊕((List Str)×UInt8)):=fun k_ a0 a1=>loopF (fun(g:((List Str)×Int)->Option ((List Str)⊕((List Str)×UInt8))) v=>aei fu y1 (fun a0 a1=>g (a0,a1)) v.1 v.2) k_ (a0,a1)
theorem agt{fu:Nat}{y1:((List (Int×Str))×Int×UInt8)}{k_:Nat}{a0:List Str}{a1:Int}:ado fu y1 (k_+1) a0 a1=aei fu y1 (ado fu y1 k_) a0 a1:=rfl
def ahq(fu:Nat)(a0:Str):Option ((List Str)×UInt8):=
 ((aho fu a0 (44:UInt8)).bind fun(y1:((List (Int×Str))×Int×UInt8))=>(if y1.2.2=(0:UInt8)then(((ado fu y1 fu ([]:List Str) (0:Int))).bind fun(a1:((List Str)⊕((List Str)×UInt8)))=>Sum.elim (fun(a2:List Str)=>some (a2,(0:UInt8))) (fun q=>some q) a1)else some (([]:List Str),y1.2.2)))
open Go.Lib renaming join -> zaD
def acw(fu:Nat)(a0:Str):Option (List Str):=
 ((ahq fu a0).bind fun(y1:((List Str)×UInt8))=>(if y1.2=(0:UInt8)then some y1.1 else some ([a0]:List Str)))
def adr(fu:Nat)(a4:(Str×Str×Int×Str×(List (Str×Str))×(List UInt8)))(a2:Str):Option (Str×Str×Int×Str×(List (Str×Str))×(List UInt8)):=
 ((adb fu a4).bind fun(y7:(Str×Str×Int×Str×(List (Str×Str))×(List UInt8)))=>((aca fu a2).bind fun(a3:(UInt8×Str))=>((aae fu y7.2.2.2.2.1 a3.1 a3.2).bind fun(a0:Int)=>(if a0<(0:Int)then some y7 else((((agd fu a2).bind fun(a5:Bool)=>(bif a5 then(gd (0<=a0/\a0<(y7.2.2.2.2.1.length:Int))<|(gd (0<=a0/\a0<(y7.2.2.2.2.1.length:Int))<|((acw fu ((el y7.2.2.2.2.1 a0).2)).bind fun(a1:List Str)=>(if(1:Int)<(a1.length:Int)then(gd (0<=(1:Int)/\(1:Int)<=(a1.length:Int))<|(gd ((zaE (zah (1:Int)) a1).length<=1000000000/\(zaD (zaE (zah (1:Int)) a1) ([44,32]:Str)).length<=100000000000)<|(gd (0<=a0/\a0<(y7.2.2.2.2.1.length:Int))<|(gd (0<=a0/\a0<(y7.2.2.2.2.1.length:Int))<|some (.inr (y7.1,y7.2.1,y7.2.2.1,y7.2.2.2.1,List.set y7.2.2.2.2.1 (zah a0) ((el y7.2.2.2.2.1 a0).1,zaD (zaE (zah (1:Int)) a1) ([44,32]:Str)),y7.2.2.2.2.2))))))else some (.inl ())))))else some (.inl ())))).bind fun(a6:(Unit⊕(Str×Str×Int×Str×(List (Str×Str))×(List UInt8))))=>Sum.elim (fun(a7:Unit)=>(gd (afr (a0+(1:Int)))<|(gd (0<=a0/\a0<=(a0+(1:Int))/\(a0+(1:Int))<=(y7.2.2.2.2.1.length:Int))<|some (y7.1,y7.2.1,y7.2.2.1,y7.2.2.2.1,delL y7.2.2.2.2.1 a0 (a0+(1:Int)),y7.2.2.2.2.2)))) (fun q=>some q) a6)))))
def afo(fu:Nat)(a1:UInt8)(a2:Int->Option (Unit⊕Bool))(a0:Int):Option (Unit⊕Bool):=
 (if a0<(([45,46,33,37,42,95,43,39,126]:Str).length:Int)then(gd (0<=a0/\a0<(([45,46,33,37,42,95,43,39,126]:Str).length:Int))<|(if(at_ ([45,46,33,37,42,95,43,39,126]:Str) a0)=a1 then some (.inr true)else(gd (afr (a0+(1:Int)))<|(a2 (a0+(1:Int))))))else some (.inl ()))
def aec(fu:Nat)(a1:UInt8):Nat->Int->Option (Unit⊕Bool):=fun k_ a0=>loopF (fun(g:Int->Option (Unit⊕Bool)) v=>afo fu a1 (fun a0=>g a0) v) k_ a0
theorem ajx{fu:Nat}{a0:UInt8}{k_:Nat}{a1:Int}:aec fu a0 (k_+1) a1=afo fu a0 (aec fu a0 k_) a1:=rfl
def aeu(fu:Nat)(a0:UInt8):Option Bool:=
 (((if(65:UInt8)<=a0 then(if a0<=(90:UInt8)then some true else(if(97:UInt8)<=a0 then(if a0<=(122:UInt8)then some true else(if(48:UInt8)<=a0 then some (decide (a0<=(57:UInt8)))else some false))else(if(48:UInt8)<=a0 then some (decide (a0<=(57:UInt8)))else some false)))else(if(97:UInt8)<=a0 then(if a0<=(122:UInt8)then some true else(if(48:UInt8)<=a0 then some (decide (a0<=(57:UInt8)))else some false))else(if(48:UInt8)<=a0 then some (decide (a0<=(57:UInt8)))else some false)))).bind fun(a1:Bool)=>(bif a1 then some true else(((aec fu a0 fu (0:Int))).bind fun(a2:(Unit⊕Bool))=>Sum.elim (fun(a3:Unit)=>some (decide (a0=(96:UInt8)))) (fun q=>some q) a2)))
def acv(fu:Nat)(a1:Str)(a2:Int->Option Int)(a0:Int):Option Int:=
 (((if a0<(a1.length:Int)then(gd (0<=a0/\a0<(a1.length:Int))<|((aeu fu (at_ a1 a0)).bind fun(a3:Bool)=>some a3))else some false)).bind fun(a4:Bool)=>(bif a4 then(gd (afr (a0+(1:Int)))<|(a2 (a0+(1:Int))))else some a0))
def adf(fu:Nat)(a1:Str):Nat->Int->Option Int:=fun k_ a0=>loopF (fun(g:Int->Option Int) v=>acv fu a1 (fun a0=>g a0) v) k_ a0
theorem afn{fu:Nat}{a0:Str}{k_:Nat}{a1:Int}:adf fu a0 (k_+1) a1=acv fu a0 (adf fu a0 k_) a1:=rfl
def aff(fu:Nat)(a0:Str)(a1:Int):Option Int:=
 (((adf fu a0 fu (min (max a1 (0:Int)) (a0.length:Int)))).bind fun(a2:Int)=>some a2)
def ahl(fu:Nat)(a0:Str):Option Bool:=
 (((if a0=([]:Str)then some false else((aff fu a0 (0:Int)).bind fun(a1:Int)=>some (decide (a1=(a0.length:Int)))))).bind fun(a2:Bool)=>some a2)
def aeb(fu:Nat)(a3:Str)(a2:Str->Int->Option Str)(a1:Str)(a0:Int):Option Str:=
 (if a0<(a3.length:Int)then(((gd (0<=a0/\a0<(a1.length:Int))<|(gd (0<=a0/\a0<(a1.length:Int))<|(if(65:UInt8)<=(at_ a1 a0)then(gd (0<=a0/\a0<(a1.length:Int))<|(gd (0<=a0/\a0<(a1.length:Int))<|some (decide ((at_ a1 a0)<=(90:UInt8)))))else some false)))).bind fun(a4:Bool)=>(bif a4 then(gd (0<=a0/\a0<(a1.length:Int))<|(gd (0<=a0/\a0<(a1.length:Int))<|(gd (0<=a0/\a0<(a1.length:Int))<|(gd (0<=a0/\a0<(a1.length:Int))<|(gd (afr (a0+(1:Int)))<|(a2 (List.set a1 (zah a0) ((at_ a1 a0)+(32:UInt8))) (a0+(1:Int))))))))else(gd (afr (a0+(1:Int)))<|(a2 a1 (a0+(1:Int))))))else some a1)
def aet(fu:Nat)(a2:Str):Nat->Str->Int->Option Str:=fun k_ a0 a1=>loopF (fun(g:(Str×Int)->Option Str) v=>aeb fu a2 (fun a0 a1=>g (a0,a1)) v.1 v.2) k_ (a0,a1)
theorem agr{fu:Nat}{a0:Str}{k_:Nat}{a1:Str}{a2:Int}:aet fu a0 (k_+1) a1 a2=aeb fu a0 (aet fu a0 k_) a1 a2:=rfl
def agb(fu:Nat)(a0:Str):Option Str:=
 (((aet fu a0 fu a0 (0:Int))).bind fun(a1:Str)=>some a1)
def ahi(fu:Nat)(a1:UInt8)(a2:Int->Option (Unit⊕Str))(a0:Int):Option (Unit⊕Str):=
 (if a0<(15:Int)then(gd (0<=a0/\a0<(([([98,82,101,102,101,114,114,101,100,45,66,121]:Str),([99,67,111,110,116,101,110,116,45,84,121,112,101]:Str),([101,67,111,110,116,101,110,116,45,69,110,99,111,100,105,110,103]:Str),([102,70,114,111,109]:Str),([105,67,97,108,108,45,73,68]:Str),([107,83,117,112,112,111,114,116,101,100]:Str),([108,67,111,110,116,101,110,116,45,76,101,110,103,116,104]:Str),([109,67,111,110,116,97,99,116]:Str),([111,69,118,101,110,116]:Str),([114,82,101,102,101,114,45,84,111]:Str),([115,83,117,98,106,101,99,116]:Str),([116,84,111]:Str),([117,65,108,108,111,119,45,69,118,101,110,116,115]:Str),([118,86,105,97]:Str),([120,83,101,115,115,105,111,110,45,69,120,112,105,114,101,115]:Str)]:List Str).length:Int))<|(gd (0<=a0/\a0<(([([98,82,101,102,101,114,114,101,100,45,66,121]:Str),([99,67,111,110,116,101,110,116,45,84,121,112,101]:Str),([101,67,111,110,116,101,110,116,45,69,110,99,111,100,105,110,103]:Str),([102,70,114,111,109]:Str),([105,67,97,108,108,45,73,68]:Str),([107,83,117,112,112,111,114,116,101,100]:Str),([108,67,111,110,116,101,110,116,45,76,101,110,103,116,104]:Str),([109,67,111,110,116,97,99,116]:Str),([111,69,118,101,110,116]:Str),([114,82,101,102,101,114,45,84,111]:Str),([115,83,117,98,106,101,99,116]:Str),([116,84,111]:Str),([117,65,108,108,111,119,45,69,118,101,110,116,115]:Str),([118,86,105,97]:Str),([120,83,101,115,115,105,111,110,45,69,120,112,105,114,101,115]:Str)]:List Str).length:Int))<|(gd (0<=(0:Int)/\(0:Int)<((el ([([98,82,101,102,101,114,114,101,100,45,66,121]:Str),([99,67,111,110,116,101,110,116,45,84,121,112,101]:Str),([101,67,111,110,116,101,110,116,45,69,110,99,111,100,105,110,103]:Str),([102,70,114,111,109]:Str),([105,67,97,108,108,45,73,68]:Str),([107,83,117,112,112,111,114,116,101,100]:Str),([108,67,111,110,116,101,110,116,45,76,101,110,103,116,104]:Str),([109,67,111,110,116,97,99,116]:Str),([111,69,118,101,110,116]:Str),([114,82,101,102,101,114,45,84,111]:Str),([115,83,117,98,106,101,99,116]:Str),([116,84,111]:Str),([117,65,108,108,111,119,45,69,118,101,110,116,115]:Str),([118,86,105,97]:Str),([120,83,101,115,115,105,111,110,45,69,120,112,105,114,101,115]:Str)]:List Str) a0).length:Int))<|(if(at_ (el ([([98,82,101,102,101,114,114,101,100,45,66,121]:Str),([99,67,111,110,116,101,110,116,45,84,121,112,101]:Str),([101,67,111,110,116,101,110,116,45,69,110,99,111,100,105,110,103]:Str),([102,70,114,111,109]:Str),([105,67,97,108,108,45,73,68]:Str),([107,83,117,112,112,111,114,116,101,100]:Str),([108,67,111,110,116,101,110,116,45,76,101,110,103,116,104]:Str),([109,67,111,110,116,97,99,116]:Str),([111,69,118,101,110,116]:Str),([114,82,101,102,101,114,45,84,111]:Str),([115,83,117,98,106,101,99,116]:Str),([116,84,111]:Str),([117,65,108,108,111,119,45,69,118,101,110,116,115]:Str),([118,86,105,97]:Str),([120,83,101,115,115,105,111,110,45,69,120,112,105,114,101,115]:Str)]:List Str) a0) (0:Int))=a1 then(gd (0<=a0/\a0<(([([98,82,101,102,101,114,114,101,100,45,66,121]:Str),([99,67,111,110,116,101,110,116,45,84,121,112,101]:Str),([101,67,111,110,116,101,110,116,45,69,110,99,111,100,105,110,103]:Str),([102,70,114,111,109]:Str),([105,67,97,108,108,45,73,68]:Str),([107,83,117,112,112,111,114,116,101,100]:Str),([108,67,111,110,116,101,110,116,45,76,101,110,103,116,104]:Str),([109,67,111,110,116,97,99,116]:Str),([111,69,118,101,110,116]:Str),([114,82,101,102,101,114,45,84,111]:Str),([115,83,117,98,106,101,99,116]:Str),([116,84,111]:Str),([117,65,108,108,111,119,45,69,118,101,110,116,115]:Str),([118,86,105,97]:Str),([120,83,101,115,115,105,111,110,45,69,120,112,105,114,101,115]:Str)]:List Str).length:Int))<|(gd (0<=a0/\a0<(([([98,82,101,102,101,114,114,101,100,45,66,121]:Str),([99,67,111,110,116,101,110,116,45,84,121,112,101]:Str),([101,67,111,110,116,101,110,116,45,69,110,99,111,100,105,110,103]:Str),([102,70,114,111,109]:Str),([105,67,97,108,108,45,73,68]:Str),([107,83,117,112,112,111,114,116,101,100]:Str),([108,67,111,110,116,101,110,116,45,76,101,110,103,116,104]:Str),([109,67,111,110,116,97,99,116]:Str),([111,69,118,101,110,116]:Str),([114,82,101,102,101,114,45,84,111]:Str),([115,83,117,98,106,101,99,116]:Str),([116,84,111]:Str),([117,65,108,108,111,119,45,69,118,101,110,116,115]:Str),([118,86,105,97]:Str),([120,83,101,115,115,105,111,110,45,69,120,112,105,114,101,115]:Str)]:List Str).length:Int))<|(gd (0<=(1:Int)/\(1:Int)<=((el ([([98,82,101,102,101,114,114,101,100,45,66,121]:Str),([99,67,111,110,116,101,110,116,45,84,121,112,101]:Str),([101,67,111,110,116,101,110,116,45,69,110,99,111,100,105,110,103]:Str),([102,70,114,111,109]:Str),([105,67,97,108,108,45,73,68]:Str),([107,83,117,112,112,111,114,116,101,100]:Str),([108,67,111,110,116,101,110,116,45,76,101,110,103,116,104]:Str),([109,67,111,110,116,97,99,116]:Str),([111,69,118,101,110,116]:Str),([114,82,101,102,101,114,45,84,111]:Str),([115,83,117,98,106,101,99,116]:Str),([116,84,111]:Str),([117,65,108,108,111,119,45,69,118,101,110,116,115]:Str),([118,86,105,97]:Str),([120,83,101,115,115,105,111,110,45,69,120,112,105,114,101,115]:Str)]:List Str) a0).length:Int))<|some (.inr (zaE (zah (1:Int)) (el ([([98,82,101,102,101,114,114,101,100,45,66,121]:Str),([99,67,111,110,116,101,110,116,45,84,121,112,101]:Str),([101,67,111,110,116,101,110,116,45,69,110,99,111,100,105,110,103]:Str),([102,70,114,111,109]:Str),([105,67,97,108,108,45,73,68]:Str),([107,83,117,112,112,111,114,116,101,100]:Str),([108,67,111,110,116,101,110,116,45,76,101,110,103,116,104]:Str),([109,67,111,110,116,97,99,116]:Str),([111,69,118,101,110,116]:Str),([114,82,101,102,101,114,45,84,111]:Str),([115,83,117,98,106,101,99,116]:Str),([116,84,111]:Str),([117,65,108,108,111,119,45,69,118,101,110,116,115]:Str),([118,86,105,97]:Str),([120,83,101,115,115,105,111,110,45,69,120,112,105,114,101,115]:Str)]:List Str) a0))))))else(gd (afr (a0+(1:Int)))<|(a2 (a0+(1:Int))))))))else some (.inl ()))
def afz(fu:Nat)(a1:UInt8):Nat->Int->Option (Unit⊕Str):=fun k_ a0=>loopF (fun(g:Int->Option (Unit⊕Str)) v=>ahi fu a1 (fun a0=>g a0) v) k_ a0
theorem L_ref03_short_lp0_s{fu:Nat}{a0:UInt8}{k_:Nat}{a1:Int}:afz fu a0 (k_+1) a1=ahi fu a0 (afz fu a0 k_) a1:=rfl
def ahj(fu:Nat)(a0:UInt8):Option Str:=
 (((afz fu a0 fu (0:Int))).bind fun(a1:(Unit⊕Str))=>Sum.elim (fun(a2:Unit)=>some ([]:Str)) (fun q=>some q) a1)
def ahk(fu:Nat)(a1:Str)(a2:Int->Option (Unit⊕(Str×UInt8)))(a0:Int):Option (Unit⊕(Str×UInt8)):=
 (if a0<(7:Int)then(gd (0<=a0/\a0<(([([67,97,108,108,45,73,68]:Str),([67,83,101,113]:Str),([77,73,77,69,45,86,101,114,115,105,111,110]:Str),([77,105,110,45,83,69]:Str),([82,65,99,107]:Str),([82,83,101,113]:Str),([87,87,87,45,65,117,116,104,101,110,116,105,99,97,116,101]:Str)]:List Str).length:Int))<|(gd (0<=a0/\a0<(([([67,97,108,108,45,73,68]:Str),([67,83,101,113]:Str),([77,73,77,69,45,86,101,114,115,105,111,110]:Str),([77,105,110,45,83,69]:Str),([82,65,99,107]:Str),([82,83,101,113]:Str),([87,87,87,45,65,117,116,104,101,110,116,105,99,97,116,101]:Str)]:List Str).length:Int))<|((agb fu (el ([([67,97,108,108,45,73,68]:Str),([67,83,101,113]:Str),([77,73,77,69,45,86,101,114,115,105,111,110]:Str),([77,105,110,45,83,69]:Str),([82,65,99,107]:Str),([82,83,101,113]:Str),([87,87,87,45,65,117,116,104,101,110,116,105,99,97,116,101]:Str)]:List Str) a0)).bind fun(a3:Str)=>(if a3=a1 then(gd (0<=a0/\a0<(([([67,97,108,108,45,73,68]:Str),([67,83,101,113]:Str),([77,73,77,69,45,86,101,114,115,105,111,110]:Str),([77,105,110,45,83,69]:Str),([82,65,99,107]:Str),([82,83,101,113]:Str),([87,87,87,45,65,117,116,104,101,110,116,105,99,97,116,101]:Str)]:List Str).length:Int))<|(gd (0<=a0/\a0<(([([67,97,108,108,45,73,68]:Str),([67,83,101,113]:Str),([77,73,77,69,45,86,101,114,115,105,111,110]:Str),([77,105,110,45,83,69]:Str),([82,65,99,107]:Str),([82,83,101,113]:Str),([87,87,87,45,65,117,116,104,101,110,116,105,99,97,116,101]:Str)]:List Str).length:Int))<|some (.inr (el ([([67,97,108,108,45,73,68]:Str),([67,83,101,113]:Str),([77,73,77,69,45,86,101,114,115,105,111,110]:Str),([77,105,110,45,83,69]:Str),([82,65,99,107]:Str),([82,83,101,113]:Str),([87,87,87,45,65,117,116,104,101,110,116,105,99,97,116,101]:Str)]:List Str) a0,(0:UInt8)))))else(gd (afr (a0+(1:Int)))<|(a2 (a0+(1:Int))))))))else some (.inl ()))
def aes(fu:Nat)(a1:Str):Nat->Int->Option (Unit⊕(Str×UInt8)):=fun k_ a0=>loopF (fun(g:Int->Option (Unit⊕(Str×UInt8))) v=>ahk fu a1 (fun a0=>g a0) v) k_ a0
theorem L_ref03_Canon_lp0_s{fu:Nat}{a0:Str}{k_:Nat}{a1:Int}:aes fu a0 (k_+1) a1=ahk fu a0 (aes fu a0 k_) a1:=rfl
def aea(fu:Nat)(a3:Str)(a2:Str->Int->Option Str)(a1:Str)(a0:Int):Option Str:=
 (if a0<(a3.length:Int)then(((if a0=(0:Int)then(gd (0<=a0/\a0<(a1.length:Int))<|(gd (0<=a0/\a0<(a1.length:Int))<|(if(97:UInt8)<=(at_ a1 a0)then(gd (0<=a0/\a0<(a1.length:Int))<|(gd (0<=a0/\a0<(a1.length:Int))<|some (decide ((at_ a1 a0)<=(122:UInt8)))))else some false)))else(gd (afr (a0-(1:Int)))<|(gd (0<=(a0-(1:Int))/\(a0-(1:Int))<(a1.length:Int))<|(gd (0<=(a0-(1:Int))/\(a0-(1:Int))<(a1.length:Int))<|(if(at_ a1 (a0-(1:Int)))=(45:UInt8)then(gd (0<=a0/\a0<(a1.length:Int))<|(gd (0<=a0/\a0<(a1.length:Int))<|(if(97:UInt8)<=(at_ a1 a0)then(gd (0<=a0/\a0<(a1.length:Int))<|(gd (0<=a0/\a0<(a1.length:Int))<|some (decide ((at_ a1 a0)<=(122:UInt8)))))else some false)))else some false)))))).bind fun(a4:Bool)=>(bif a4 then(gd (0<=a0/\a0<(a1.length:Int))<|(gd (0<=a0/\a0<(a1.length:Int))<|(gd (0<=a0/\a0<(a1.length:Int))<|(gd (0<=a0/\a0<(a1.length:Int))<|(gd (afr (a0+(1:Int)))<|(a2 (List.set a1 (zah a0) ((at_ a1 a0)-(32:UInt8))) (a0+(1:Int))))))))else(gd (afr (a0+(1:Int)))<|(a2 a1 (a0+(1:Int))))))else some a1)
def acp(fu:Nat)(a2:Str):Nat->Str->Int->Option Str:=fun k_ a0 a1=>loopF (fun(g:(Str×Int)->Option Str) v=>aea fu a2 (fun a0 a1=>g (a0,a1)) v.1 v.2) k_ (a0,a1)
theorem agq{fu:Nat}{a0:Str}{k_:Nat}{a1:Str}{a2:Int}:acp fu a0 (k_+1) a1 a2=aea fu a0 (acp fu a0 k_) a1 a2:=rfl
def aga(fu:Nat)(a1:Str):Option (Str×UInt8):=
 ((((ahl fu a1).bind fun(a2:Bool)=>(bif (!a2)then some true else some (decide ((64:Int)<(a1.length:Int)))))).bind fun(a3:Bool)=>(bif a3 then some (([]:Str),(5:UInt8))else((agb fu a1).bind fun(a0:Str)=>(((if(a1.length:Int)=(1:Int)then(gd (0<=(0:Int)/\(0:Int)<(a0.length:Int))<|((ahj fu (at_ a0 (0:Int))).bind fun(a4:Str)=>some (!decide (a4=([]:Str)))))else some false)).bind fun(a5:Bool)=>(bif a5 then(gd (0<=(0:Int)/\(0:Int)<(a0.length:Int))<|((ahj fu (at_ a0 (0:Int))).bind fun(a6:Str)=>some (a6,(0:UInt8))))else(((aes fu a0 fu (0:Int))).bind fun(a7:(Unit⊕(Str×UInt8)))=>Sum.elim (fun(a9:Unit)=>(((acp fu a0 fu a0 (0:Int))).bind fun(a8:Str)=>some (a8,(0:UInt8)))) (fun q=>some q) a7))))))
def ajk(fu:Nat)(a_0:Str)(a0:Str):Option Bool:=
 ((aga fu a_0).bind fun(y1:(Str×UInt8))=>((aga fu a0).bind fun(y6:(Str×UInt8))=>(((if y1.2=(0:UInt8)then(if y6.2=(0:UInt8)then some (decide (y1.1=y6.1))else some false)else some false)).bind fun(a1:Bool)=>some a1)))
def adt(fu:Nat)(a1:List (Str×Str))(a4:Str)(a3:(List (Str×Str))->Int->Option (List (Str×Str)))(a2:List (Str×Str))(a0:Int):Option (List (Str×Str)):=
 (if a0<(a1.length:Int)then(gd (0<=a0/\a0<(a1.length:Int))<|(gd (0<=a0/\a0<(a1.length:Int))<|((ajk fu ((el a1 a0).1) a4).bind fun(a5:Bool)=>(bif (!a5)then(gd (0<=a0/\a0<(a1.length:Int))<|(gd (0<=a0/\a0<(a1.length:Int))<|(gd ((a2.length+([el a1 a0]:List (Str×Str)).length)*32<=140737488355328)<|(gd (afr (a0+(1:Int)))<|(a3 (a2++([el a1 a0]:List (Str×Str))) (a0+(1:Int)))))))else(gd (afr (a0+(1:Int)))<|(a3 a2 (a0+(1:Int))))))))else some a2)
def acz(fu:Nat)(a2:List (Str×Str))(a3:Str):Nat->(List (Str×Str))->Int->Option (List (Str×Str)):=fun k_ a0 a1=>loopF (fun(g:((List (Str×Str))×Int)->Option (List (Str×Str))) v=>adt fu a2 a3 (fun a0 a1=>g (a0,a1)) v.1 v.2) k_ (a0,a1)
theorem agh{fu:Nat}{a0:List (Str×Str)}{a1:Str}{k_:Nat}{a2:List (Str×Str)}{a3:Int}:acz fu a0 a1 (k_+1) a2 a3=adt fu a0 a1 (acz fu a0 a1 k_) a2 a3:=rfl
def abl(fu:Nat)(a0:List (Str×Str))(a1:Str):Option (List (Str×Str)):=
 (((acz fu a0 a1 fu ([]:List (Str×Str)) (0:Int))).bind fun(a2:List (Str×Str))=>some a2)
def aer(fu:Nat)(a_0:(Str×Str×Int×Str×(List (Str×Str))×(List UInt8)))(b_3:(Str×Str×Int×Str×(List (Str×Str))×(List UInt8)))(a1:Int->Option (Unit⊕Bool))(a0:Int):Option (Unit⊕Bool):=
 (if a0<(a_0.2.2.2.2.1.length:Int)then(gd (0<=a0/\a0<(a_0.2.2.2.2.1.length:Int))<|(gd (0<=a0/\a0<(a_0.2.2.2.2.1.length:Int))<|(gd (0<=a0/\a0<(b_3.2.2.2.2.1.length:Int))<|(gd (0<=a0/\a0<(b_3.2.2.2.2.1.length:Int))<|(if(el a_0.2.2.2.2.1 a0)=(el b_3.2.2.2.2.1 a0)then(gd (afr (a0+(1:Int)))<|(a1 (a0+(1:Int))))else some (.inr false))))))else some (.inl ()))
def ady(fu:Nat)(a_0:(Str×Str×Int×Str×(List (Str×Str))×(List UInt8)))(b_3:(Str×Str×Int×Str×(List (Str×Str))×(List UInt8))):Nat->Int->Option (Unit⊕Bool):=fun k_ a0=>loopF (fun(g:Int->Option (Unit⊕Bool)) v=>aer fu a_0 b_3 (fun a0=>g a0) v) k_ a0
theorem ahh{fu:Nat}{a_0:(Str×Str×Int×Str×(List (Str×Str))×(List UInt8))}{b_3:(Str×Str×Int×Str×(List (Str×Str))×(List UInt8))}{k_:Nat}{a0:Int}:ady fu a_0 b_3 (k_+1) a0=aer fu a_0 b_3 (ady fu a_0 b_3 k_) a0:=rfl
def abx(fu:Nat)(a_0:(Str×Str×Int×Str×(List (Str×Str))×(List UInt8)))(b_3:(Str×Str×Int×Str×(List (Str×Str))×(List UInt8))):Option Bool:=
 (((if a_0.1=b_3.1 then(if a_0.2.1=b_3.2.1 then(if a_0.2.2.1=b_3.2.2.1 then(if a_0.2.2.2.1=b_3.2.2.2.1 then(if(a_0.2.2.2.2.1.length:Int)=(b_3.2.2.2.2.1.length:Int)then some (!decide (a_0.2.2.2.2.2=b_3.2.2.2.2.2))else some true)else some true)else some true)else some true)else some true)).bind fun(a0:Bool)=>(bif a0 then some false else(((ady fu a_0 b_3 fu (0:Int))).bind fun(a1:(Unit⊕Bool))=>Sum.elim (fun(a2:Unit)=>some true) (fun q=>some q) a1)))
def adj(fu:Nat)(a1:(Str×Str×Int×Str×(List (Str×Str))×(List UInt8)))(a2:Str):Option (Str×Bool):=
 ((aca fu a2).bind fun(y4:(UInt8×Str))=>((aae fu a1.2.2.2.2.1 y4.1 y4.2).bind fun(a0:Int)=>(if a0<(0:Int)then some (([]:Str),false)else(gd (0<=a0/\a0<(a1.2.2.2.2.1.length:Int))<|(gd (0<=a0/\a0<(a1.2.2.2.2.1.length:Int))<|some ((el a1.2.2.2.2.1 a0).2,true))))))
def aed(fu:Nat)(a1:(Str×Str×Int×Str×(List (Str×Str))×(List UInt8)))(y4:(UInt8×Str))(a5:Bool)(a3:(List Str)->Int->Option (List Str))(a2:List Str)(a0:Int):Option (List Str):=
 (if a0<(a1.2.2.2.2.1.length:Int)then(gd (0<=a0/\a0<(a1.2.2.2.2.1.length:Int))<|(gd (0<=a0/\a0<(a1.2.2.2.2.1.length:Int))<|((acq fu (el a1.2.2.2.2.1 a0) y4.1 y4.2).bind fun(a6:Bool)=>(bif (!a6)then(gd (afr (a0+(1:Int)))<|(a3 a2 (a0+(1:Int))))else(bif a5 then((acw fu ((el a1.2.2.2.2.1 a0).2)).bind fun(a4:List Str)=>(gd ((a2.length+a4.length)*16<=140737488355328)<|(gd (afr (a0+(1:Int)))<|(a3 (a2++a4) (a0+(1:Int))))))else(gd ((a2.length+([(el a1.2.2.2.2.1 a0).2]:List Str).length)*16<=140737488355328)<|(gd (afr (a0+(1:Int)))<|(a3 (a2++([(el a1.2.2.2.2.1 a0).2]:List Str)) (a0+(1:Int))))))))))else some a2)
def acr(fu:Nat)(a2:(Str×Str×Int×Str×(List (Str×Str))×(List UInt8)))(y4:(UInt8×Str))(a3:Bool):Nat->(List Str)->Int->Option (List Str):=fun k_ a0 a1=>loopF (fun(g:((List Str)×Int)->Option (List Str)) v=>aed fu a2 y4 a3 (fun a0 a1=>g (a0,a1)) v.1 v.2) k_ (a0,a1)
theorem ags{fu:Nat}{a0:(Str×Str×Int×Str×(List (Str×Str))×(List UInt8))}{y4:(UInt8×Str)}{a1:Bool}{k_:Nat}{a2:List Str}{a3:Int}:acr fu a0 y4 a1 (k_+1) a2 a3=aed fu a0 y4 a1 (acr fu a0 y4 a1 k_) a2 a3:=rfl
def aee(fu:Nat)(a1:(Str×Str×Int×Str×(List (Str×Str))×(List UInt8)))(a0:Str):Option (List Str):=
 ((aca fu a0).bind fun(y4:(UInt8×Str))=>((agd fu a0).bind fun(a2:Bool)=>(((acr fu a1 y4 a2 fu ([]:List Str) (0:Int))).bind fun(a3:List Str)=>some a3)))
def aco(fu:Nat)(a_0:List Str)(a1:List Str)(a2:Int->Option (Unit⊕Bool))(a0:Int):Option (Unit⊕Bool):=
 (if a0<(a_0.length:Int)then(gd (0<=a0/\a0<(a_0.length:Int))<|(gd (0<=a0/\a0<(a_0.length:Int))<|(gd (0<=a0/\a0<(a1.length:Int))<|(gd (0<=a0/\a0<(a1.length:Int))<|(if(el a_0 a0)=(el a1 a0)then(gd (afr (a0+(1:Int)))<|(a2 (a0+(1:Int))))else some (.inr false))))))else some (.inl ()))
def acf(fu:Nat)(a_0:List Str)(a1:List Str):Nat->Int->Option (Unit⊕Bool):=fun k_ a0=>loopF (fun(g:Int->Option (Unit⊕Bool)) v=>aco fu a_0 a1 (fun a0=>g a0) v) k_ a0
theorem afb{fu:Nat}{a_0:List Str}{a0:List Str}{k_:Nat}{a1:Int}:acf fu a_0 a0 (k_+1) a1=aco fu a_0 a0 (acf fu a_0 a0 k_) a1:=rfl
def adm(fu:Nat)(a_0:List Str)(a0:List Str):Option Bool:=
 (if(a_0.length:Int)=(a0.length:Int)then(((acf fu a_0 a0 fu (0:Int))).bind fun(a1:(Unit⊕Bool))=>Sum.elim (fun(a2:Unit)=>some true) (fun q=>some q) a1)else some false)
def acb(fu:Nat)(a1:(Str×Str×Int×Str×(List (Str×Str))×(List UInt8)))(a3:Str)(y8:(Str×Str×Int×Str×(List (Str×Str))×(List UInt8)))(a4:(Str×Str×Int×Str×(List (Str×Str))×(List UInt8)))(a5:(Str×Str×Int×Str×(List (Str×Str))×(List UInt8)))(a6:(Str×Str×Int×Str×(List (Str×Str))×(List UInt8)))(a7:(Str×UInt8))(a2:Int->Option (Unit⊕Bool))(a0:Int):Option (Unit⊕Bool):=
 (if a0<(4:Int)then(gd (0<=a0/\a0<(4:Int))<|(if a0=(0:Int)then(if a7.2=(0:UInt8)then((abl fu y8.2.2.2.2.1 a3).bind fun(a8:List (Str×Str))=>((abl fu a1.2.2.2.2.1 a3).bind fun(a9:List (Str×Str))=>((abx fu (y8.1,y8.2.1,y8.2.2.1,y8.2.2.2.1,a8,y8.2.2.2.2.2) (a1.1,a1.2.1,a1.2.2.1,a1.2.2.2.1,a9,a1.2.2.2.2.2)).bind fun(b0:Bool)=>(bif (!b0)then some (.inr false)else(gd (afr (a0+(1:Int)))<|(a2 (a0+(1:Int))))))))else(if a0<(2:Int)then(gd (afr (a0+(1:Int)))<|(a2 (a0+(1:Int))))else((abx fu y8 a1).bind fun(b1:Bool)=>(bif (!b1)then some (.inr false)else(gd (afr (a0+(1:Int)))<|(a2 (a0+(1:Int))))))))else(if a0=(1:Int)then(if a7.2=(0:UInt8)then((abl fu a4.2.2.2.2.1 a3).bind fun(b2:List (Str×Str))=>((abl fu a1.2.2.2.2.1 a3).bind fun(b3:List (Str×Str))=>((abx fu (a4.1,a4.2.1,a4.2.2.1,a4.2.2.2.1,b2,a4.2.2.2.2.2) (a1.1,a1.2.1,a1.2.2.1,a1.2.2.2.1,b3,a1.2.2.2.2.2)).bind fun(b4:Bool)=>(bif (!b4)then some (.inr false)else(gd (afr (a0+(1:Int)))<|(a2 (a0+(1:Int))))))))else(if a0<(2:Int)then(gd (afr (a0+(1:Int)))<|(a2 (a0+(1:Int))))else((abx fu a4 a1).bind fun(b5:Bool)=>(bif (!b5)then some (.inr false)else(gd (afr (a0+(1:Int)))<|(a2 (a0+(1:Int))))))))else(if a0=(2:Int)then(if a7.2=(0:UInt8)then((abl fu a5.2.2.2.2.1 a3).bind fun(b6:List (Str×Str))=>((abl fu a1.2.2.2.2.1 a3).bind fun(b7:List (Str×Str))=>((abx fu (a5.1,a5.2.1,a5.2.2.1,a5.2.2.2.1,b6,a5.2.2.2.2.2) (a1.1,a1.2.1,a1.2.2.1,a1.2.2.2.1,b7,a1.2.2.2.2.2)).bind fun(b8:Bool)=>(bif (!b8)then some (.inr false)else(gd (afr (a0+(1:Int)))<|(a2 (a0+(1:Int))))))))else(if a0<(2:Int)then(gd (afr (a0+(1:Int)))<|(a2 (a0+(1:Int))))else((abx fu a5 a1).bind fun(b9:Bool)=>(bif (!b9)then some (.inr false)else(gd (afr (a0+(1:Int)))<|(a2 (a0+(1:Int))))))))else(if a7.2=(0:UInt8)then((abl fu a6.2.2.2.2.1 a3).bind fun(c0:List (Str×Str))=>((abl fu a1.2.2.2.2.1 a3).bind fun(c1:List (Str×Str))=>((abx fu (a6.1,a6.2.1,a6.2.2.1,a6.2.2.2.1,c0,a6.2.2.2.2.2) (a1.1,a1.2.1,a1.2.2.1,a1.2.2.2.1,c1,a1.2.2.2.2.2)).bind fun(c2:Bool)=>(bif (!c2)then some (.inr false)else(gd (afr (a0+(1:Int)))<|(a2 (a0+(1:Int))))))))else(if a0<(2:Int)then(gd (afr (a0+(1:Int)))<|(a2 (a0+(1:Int))))else((abx fu a6 a1).bind fun(c3:Bool)=>(bif (!c3)then some (.inr false)else(gd (afr (a0+(1:Int)))<|(a2 (a0+(1:Int))))))))))))else some (.inl ()))
def aan(fu:Nat)(a1:(Str×Str×Int×Str×(List (Str×Str))×(List UInt8)))(a2:Str)(y8:(Str×Str×Int×Str×(List (Str×Str))×(List UInt8)))(a3:(Str×Str×Int×Str×(List (Str×Str))×(List UInt8)))(a4:(Str×Str×Int×Str×(List (Str×Str))×(List UInt8)))(a5:(Str×Str×Int×Str×(List (Str×Str))×(List UInt8)))(a6:(Str×UInt8)):Nat->Int->Option (Unit⊕Bool):=fun k_ a0=>loopF (fun(g:Int->Option (Unit⊕Bool)) v=>acb fu a1 a2 y8 a3 a4 a5 a6 (fun a0=>g a0) v) k_ a0
theorem adx{fu:Nat}{a0:(Str×Str×Int×Str×(List (Str×Str))×(List UInt8))}{a1:Str}{y8:(Str×Str×Int×Str×(List (Str×Str))×(List UInt8))}{a2:(Str×Str×Int×Str×(List (Str×Str))×(List UInt8))}{a3:(Str×Str×Int×Str×(List (Str×Str))×(List UInt8))}{a4:(Str×Str×Int×Str×(List (Str×Str))×(List UInt8))}{a5:(Str×UInt8)}{k_:Nat}{a6:Int}:aan fu a0 a1 y8 a2 a3 a4 a5 (k_+1) a6=acb fu a0 a1 y8 a2 a3 a4 a5 (aan fu a0 a1 y8 a2 a3 a4 a5 k_) a6:=rfl
def aen(fu:Nat)(a1:(Str×Str×Int×Str×(List (Str×Str))×(List UInt8)))(a0:Str)(a2:Str):Option Bool:=
 (if(100:Int)<(a1.2.2.2.2.1.length:Int)then some true else((ahm fu a1 a0 a2).bind fun(y8:(Str×Str×Int×Str×(List (Str×Str))×(List UInt8)))=>((agl fu a1 a0 a2).bind fun(a4:(Str×Str×Int×Str×(List (Str×Str))×(List UInt8)))=>((afk fu a1 a0).bind fun(a5:(Str×Str×Int×Str×(List (Str×Str))×(List UInt8)))=>((adr fu a1 a0).bind fun(a7:(Str×Str×Int×Str×(List (Str×Str))×(List UInt8)))=>((acu fu a0).bind fun(a8:(Str×UInt8))=>(((aan fu a1 a0 y8 a4 a5 a7 a8 fu (0:Int))).bind fun(b1:(Unit⊕Bool))=>Sum.elim (fun(b8:Unit)=>(if a8.2=(0:UInt8)then((adj fu y8 a0).bind fun(a9:(Str×Bool))=>((adj fu a4 a0).bind fun(b0:(Str×Bool))=>((adj fu a5 a0).bind fun(b2:(Str×Bool))=>((aee fu a1 a0).bind fun(a3:List Str)=>((aee fu a7 a0).bind fun(a6:List Str)=>(((bif (!a9.2)then some true else(if a9.1=a2 then(bif (!b0.2)then some true else(if b0.1=a2 then(bif b2.2 then some true else((aee fu a5 a0).bind fun(b3:List Str)=>some (!decide ((b3.length:Int)=(0:Int)))))else some true))else some true))).bind fun(b4:Bool)=>(bif b4 then some false else(((gd (afr ((a3.length:Int)-(1:Int)))<|(if(a6.length:Int)=(max (0:Int) ((a3.length:Int)-(1:Int)))then(if(a6.length:Int)=(0:Int)then some true else(gd (0<=(1:Int)/\(1:Int)<=(a3.length:Int))<|((adm fu a6 (zaE (zah (1:Int)) a3)).bind fun(b5:Bool)=>(bif b5 then some true else some false))))else some false))).bind fun(b6:Bool)=>some b6))))))))else(((gd (afr ((a1.2.2.2.2.1.length:Int)+(1:Int)))<|(if(y8.2.2.2.2.1.length:Int)=((a1.2.2.2.2.1.length:Int)+(1:Int))then(gd (afr ((a1.2.2.2.2.1.length:Int)+(1:Int)))<|(if(a4.2.2.2.2.1.length:Int)=((a1.2.2.2.2.1.length:Int)+(1:Int))then some true else some false))else some false))).bind fun(b7:Bool)=>some b7))) (fun q=>some q) b1)))))))
end Go.Wk
set_option maxRecDepth 100000
namespace Go.Wk
open Go.Px
open Bool renaming not_true -> zbe
open Int renaming toNat -> zah
open List renaming append_assoc -> zaC, length_append -> zae, length_cons -> zaf, length_nil -> zbd, length_singleton -> zaw, map_cons -> zao, nil_append -> zaM
open Option renaming bind_some -> zaa
open Sum renaming elim_inl -> zaZ
def FU:Nat:=18446744073709551616
theorem FU_eq:FU=18446744073709551616:=rfl
theorem at_mid(p:Str)(c:UInt8)(l:Str):at_ (p++c::l) (p.length:Int)=c:=by simp [at_]
theorem set_mid(p:Str)(c x:UInt8)(l:Str):List.set (p++c::l) (zah (p.length:Int)) x=(p++[x])++l:=by simp
theorem len_snoc(p:Str)(x:UInt8):((p.length:Int)+1)=((p++[x]).length:Int):=by simp
theorem aht(a:Int)(h0:0<=a)(h:a<=9223372036854775807):afr a:=⟨by omega,by omega⟩
theorem char_token(fu:Nat)(c:UInt8):aef fu c=some (aey c):=by
 show aef 0 c=_
 revert c;exact acs _ (by decide+kernel)
theorem ref_char_token:∀c:UInt8,aeu FU c=some (aey c):=acs _ (by decide+kernel)
theorem lowerByte_eq(fu:Nat)(c:UInt8):aci fu c=some (abi c):=by
 show aci 0 c=_
 revert c;exact acs _ (by decide+kernel)
theorem tokEnd_lp{fu:Nat}(s:Str)(hs:s.length<=9223372036854775807)(n:Nat):∀(k fk:Nat),k+n=s.length->n<fk->
  abd fu s fk (k:Int)=some ((k+aiv aey (s.drop k):Nat):Int):=by
 induction n with
 |zero=>
  intro k fk hk hf;obtain⟨fk,rfl⟩:=fkx fk;rw [ace,aba,if_neg omg,List.drop_eq_nil_of_le omg];simp [aiv]
 |succ n ih=>
  intro k fk hk hf;obtain⟨fk,rfl⟩:=fkx fk;rw [ace,aba,if_pos omg,aaf omg,char_token,drop_at s k omg];simp only [zaa];cases h:aey (at_ s k)
  ·simp [aiv,h]
  ·rw [cond_true];rw [aaf (aht _ omg omg)];have e:((k:Int)+1)=((k+1:Nat):Int):=rfl;rw [e,ih (k+1) fk omg omg];have e2:aiv aey (at_ s k::s.drop (k+1))=1+aiv aey (s.drop (k+1)):=by simp [aiv,h,Nat.add_comm]
   rw [e2,Nat.add_assoc]
theorem refTokEnd_lp{fu:Nat}(hc:∀c,aeu fu c=some (aey c))(s:Str)(hs:s.length<=9223372036854775807)(n:Nat):∀(k fk:Nat),k+n=s.length->n<fk->
  adf fu s fk (k:Int)=some ((k+aiv aey (s.drop k):Nat):Int):=by
 induction n with
 |zero=>
  intro k fk hk hf;obtain⟨fk,rfl⟩:=fkx fk;rw [afn,acv,if_neg omg,List.drop_eq_nil_of_le omg];simp [aiv]
 |succ n ih=>
  intro k fk hk hf;obtain⟨fk,rfl⟩:=fkx fk;rw [afn,acv,if_pos omg,aaf omg,hc,drop_at s k omg];simp only [zaa];cases h:aey (at_ s k)
  ·simp [aiv,h]
  ·rw [cond_true];rw [aaf (aht _ omg omg)];have e:((k:Int)+1)=((k+1:Nat):Int):=rfl;rw [e,ih (k+1) fk omg omg];have e2:aiv aey (at_ s k::s.drop (k+1))=1+aiv aey (s.drop (k+1)):=by simp [aiv,h,Nat.add_comm]
   rw [e2,Nat.add_assoc]
theorem skipTok_eq(s:Str)(hs:s.length<=9223372036854775807)(i:Int):abt FU s i=some ((skipL aey s i:Nat):Int):=by
 unfold abt skipL;have h:min (max i 0) (s.length:Int)=((aie i s.length:Nat):Int):=by unfold aie;omega
 have:=clampN_le i s.length
 rw [h,tokEnd_lp s hs (s.length-aie i s.length) _ FU omg (by rw [FU_eq];omega)];rfl
theorem refTokEnd_eq(s:Str)(hs:s.length<=9223372036854775807)(i:Int):aff FU s i=some ((skipL aey s i:Nat):Int):=by
 unfold aff skipL;have h:min (max i 0) (s.length:Int)=((aie i s.length:Nat):Int):=by unfold aie;omega
 have:=clampN_le i s.length
 rw [h,refTokEnd_lp ref_char_token s hs (s.length-aie i s.length) _ FU omg (by rw [FU_eq];omega)];rfl
theorem tok_cases(s:Str):(if s=[]then some false else some (decide (((skipL aey s 0:Nat):Int)=(s.length:Int))))=some (isTok s):=by
 have:=tok_iff s
 by_cases h:s=[]
 ·subst h;rfl
 ·rw [if_neg h];congr 1;by_cases h2:((skipL aey s 0:Nat):Int)=(s.length:Int)
  ·rw [decide_eq_true h2,this.1 ⟨h,h2⟩]
  ·rw [decide_eq_false h2];cases h3:isTok s
   ·rfl
   ·exact absurd (this.2 h3).2 h2
theorem token_eq(s:Str)(hs:s.length<=9223372036854775807):ahn FU s=some (isTok s):=by
 unfold ahn agn;rw [skipTok_eq s hs];simp only [zaa,Option.bind_fun_some];exact tok_cases s
theorem refToken_eq(s:Str)(hs:s.length<=9223372036854775807):ahl FU s=some (isTok s):=by
 unfold ahl;rw [refTokEnd_eq s hs];simp only [zaa,Option.bind_fun_some];exact tok_cases s
theorem mid_lt(p:Str)(c:UInt8)(l:Str):(0:Int)<=(p.length:Int)/\(p.length:Int)<((p++c::l).length:Int):=by
 rw [zae,zaf];omega
theorem lower_lp{fu:Nat}(s:Str)(hs:s.length<=9223372036854775807)(l:Str):∀(p:Str) (fk:Nat),p.length+l.length=s.length->l.length<fk->
  aav fu s fk (p++l) (p.length:Int)=some (p++l.map abi):=by
 induction l with
 |nil=>
  intro p fk hk hf;obtain⟨fk,rfl⟩:=fkx fk;simp only [zbd]at hk;rw [abw,aau,if_neg omg];rfl
 |cons c l ih=>
  intro p fk hk hf;obtain⟨fk,rfl⟩:=fkx fk;simp only [zaf]at hk hf;have hb:=mid_lt p c l;rw [abw,aau,if_pos omg,aaf hb,aaf hb,at_mid,lowerByte_eq];simp only [zaa];rw [aaf hb,aaf hb,aaf (aht _ omg omg),set_mid,len_snoc p (abi c),ih (p++[abi c]) fk (by rw [zae,zaw];omega) omg];simp
theorem lower_eq(s:Str)(hs:s.length<=9223372036854775807):aat FU s=some (ahe s):=by
 unfold aat
 have:=lower_lp (fu:=FU) s hs s [] FU (by simp) (by rw [FU_eq];omega)
 simp only [zaM,zbd,Int.natCast_zero,Int.cast_ofNat_Int]at this;rw [this];rfl
theorem lowerB_up(c:UInt8)(h1:65<=c)(h2:c<=90):c+32=abi c:=by simp [abi,h1,h2]
theorem lowerB_no(c:UInt8)(h:¬(65<=c/\c<=90)):abi c=c:=by simp only [abi,if_neg h]
theorem refLower_lp{fu:Nat}(s:Str)(hs:s.length<=9223372036854775807)(l:Str):∀(p:Str) (fk:Nat),p.length+l.length=s.length->l.length<fk->
  aet fu s fk (p++l) (p.length:Int)=some (p++l.map abi):=by
 induction l with
 |nil=>
  intro p fk hk hf;obtain⟨fk,rfl⟩:=fkx fk;simp only [zbd]at hk;rw [agr,aeb,if_neg omg];rfl
 |cons c l ih0=>
  intro p fk hk hf;obtain⟨fk,rfl⟩:=fkx fk;simp only [zaf]at hk hf;have hb:=mid_lt p c l;have ih:=ih0 (p++[abi c]) fk (by rw [zae,zaw];omega) omg;have ok:afr ((p.length:Int)+1):=aht _ omg omg;rw [agr,aeb,if_pos omg];simp only [aaf hb,at_mid,aaf ok,set_mid];by_cases h1:65<=c
  ·by_cases h2:c<=90
   ·simp only [if_pos h1,decide_eq_true h2,zaa,cond_true,lowerB_up c h1 h2];rw [len_snoc p (abi c),ih];simp
   ·simp only [if_pos h1,decide_eq_false h2,zaa,cond_false];rw [lowerB_no c (fun h=>h2 h.2)]at ih;rw [len_snoc p c,show p++c::l=(p++[c])++l by simp,ih];simp [lowerB_no c (fun h=>h2 h.2)]
  ·simp only [if_neg h1,zaa,cond_false];rw [lowerB_no c (fun h=>h1 h.1)]at ih;rw [len_snoc p c,show p++c::l=(p++[c])++l by simp,ih];simp [lowerB_no c (fun h=>h1 h.1)]
theorem refLower_eq(s:Str)(hs:s.length<=9223372036854775807):agb FU s=some (ahe s):=by
 unfold agb
 have:=refLower_lp (fu:=FU) s hs s [] FU (by simp) (by rw [FU_eq];omega)
 simp only [zaM,zbd,Int.natCast_zero,Int.cast_ofNat_Int]at this;rw [this];rfl
def longN(c:UInt8):Str:=(aev FU c).getD []
theorem long_eq:∀c:UInt8,aev FU c=some (longN c):=acs _ (by decide+kernel)
theorem short_eq:∀c:UInt8,ahj FU c=some (longN c):=acs _ (by decide+kernel)
theorem special_eq(y:Str):aes FU y FU 0=abv FU y FU 0:=by kernel_rfl
def ago:Bool->Str->Str
 |_,[]=>[]
 |f,c::l=>(if f then agk c else abi c)::ago (c==45) l
theorem canon1_eq(fu:Nat)(f:Bool)(c:UInt8):afg fu c f=some (if f then agk c else abi c,c==45):=by
 show afg 0 c f=_
 revert c;cases f<;>exact acs _ (by decide+kernel)
theorem title_lp{fu:Nat}(s:Str)(hs:s.length<=9223372036854775807)(l:Str):∀(p:Str) (f:Bool) (fk:Nat),p.length+l.length=s.length->l.length<fk->
  (aay fu s fk (p++l) (p.length:Int) f).map (·.1)=some (p++ago f l):=by
 induction l with
 |nil=>
  intro p f fk hk hf;obtain⟨fk,rfl⟩:=fkx fk;simp only [zbd]at hk;rw [abz,aaw,if_neg omg];rfl
 |cons c l ih=>
  intro p f fk hk hf;obtain⟨fk,rfl⟩:=fkx fk;simp only [zaf]at hk hf;have hb:=mid_lt p c l;rw [abz,aaw,if_pos omg,aaf hb,aaf hb,at_mid,canon1_eq,zaa,
   aaf hb,aaf hb,aaf (aht _ omg omg),set_mid,len_snoc p (if f then agk c else abi c),ih _ _ fk (by rw [zae,zaw];omega) omg,zaC]
  rfl
theorem title_eq(s:Str)(hs:s.length<=9223372036854775807):∃b,aax FU s true=some (ago true s,b):=by
 unfold aax
 have:=title_lp (fu:=FU) s hs s [] true FU (by simp) (by rw [FU_eq];omega)
 obtain⟨r,h1,h2⟩:=Option.map_eq_some_iff.1 this;refine⟨r.2, ?_⟩
 rw [show((0:Int))=(([]:Str).length:Int)from rfl,show s=[]++s from rfl];simp only [zaM]at h1 h2⊢;rw [h1,zaa,h2]
def firstB(p:Str):Bool:=p.isEmpty||at_ p ((p.length:Int)-1)==45
theorem at_prev(p:Str)(c:UInt8)(l:Str)(h:p≠[]):at_ (p++c::l) ((p.length:Int)-1)=at_ p ((p.length:Int)-1):=by
 have:0<p.length:=List.length_pos_iff.2 h
 have e:((p.length:Int)-1).toNat=p.length-1:=by omega
 simp only [at_,e];rw [List.getD_eq_getElem?_getD,List.getD_eq_getElem?_getD,List.getElem?_append_left omg]
theorem first_snoc(p:Str)(x:UInt8):firstB (p++[x])=(x==45):=by
 have e:(((p++[x]).length:Int)-1)=(p.length:Int):=by simp
 simp only [firstB,e,at_mid];simp
theorem up45:∀c:UInt8,(agk (abi c)==45)=(c==45):=acs _ (by decide+kernel)
theorem low45:∀c:UInt8,(abi c==45)=(c==45):=acs _ (by decide+kernel)
theorem uplow:∀c:UInt8,agk (abi c)=agk c:=acs _ (by decide+kernel)
theorem upperB_up(c:UInt8)(h1:97<=c)(h2:c<=122):c-32=agk c:=by simp [agk,h1,h2]
theorem upperB_no(c:UInt8)(h:¬(97<=c/\c<=122)):agk c=c:=by simp only [agk,if_neg h]
theorem refTitle_lp{fu:Nat}(s:Str)(hs:s.length<=9223372036854775807)(l:Str):∀(p:Str) (fk:Nat),p.length+l.length=s.length->l.length<fk->
  acp fu s fk (p++l.map abi) (p.length:Int)=some (p++ago (firstB p) l):=by
 induction l with
 |nil=>
  intro p fk hk hf;obtain⟨fk,rfl⟩:=fkx fk;simp only [zbd]at hk;rw [agq,aea,if_neg omg];rfl
 |cons c l ih0=>
  intro p fk hk hf;obtain⟨fk,rfl⟩:=fkx fk;simp only [zaf]at hk hf;have hb:=mid_lt p (abi c) (l.map abi);have ok:afr ((p.length:Int)+1):=aht _ omg omg;have ih:∀x,(x==45)=(c==45)->acp fu s fk ((p++[x])++l.map abi) ((p.length:Int)+1)=some (p++x::ago (c==45) l):=fun x hx=>by
   rw [len_snoc p x,ih0 (p++[x]) fk (by rw [zae,zaw];omega) omg,first_snoc,hx,zaC];rfl
  have ihn:=ih (abi c) (low45 c);have ihu:=ih (agk (abi c)) (up45 c);rw [zaC,List.singleton_append]at ihn;rw [zao,agq,aea,if_pos omg];have sub:97<=abi c->abi c<=122->abi c-32=agk (abi c):=fun h1 h2=>upperB_up _ h1 h2
  have up:∀(A B:Option Str),(97<=abi c->abi c<=122->A=some (p++agk (abi c)::ago (c==45) l))->B=some (p++abi c::ago (c==45) l)->
    (Option.bind (if 97<=abi c then some (decide (abi c<=122))else some false) fun v=>bif v then A else B)=some (p++agk (abi c)::ago (c==45) l):=by
   intro A B hA hB;by_cases h1:97<=abi c
   ·by_cases h2:abi c<=122
    ·rw [if_pos h1,decide_eq_true h2,zaa,cond_true,hA h1 h2]
    ·rw [if_pos h1,decide_eq_false h2,zaa,cond_false,hB,upperB_no _ (fun h=>h2 h.2)]
   ·rw [if_neg h1,zaa,cond_false,hB,upperB_no _ (fun h=>h1 h.1)]
  simp only [aaf hb,at_mid,aaf ok,set_mid];by_cases hp:p=[]
  ·have h0:(p.length:Int)=0:=by rw [hp];rfl
   have hfp:firstB p=true:=by rw [hp];rfl
   rw [if_pos h0,up _ _ (fun h1 h2=>by rw [sub h1 h2];exact ihu) ihn,hfp,uplow];rfl
  ·have hl:0<p.length:=List.length_pos_iff.2 hp;have hq:(0:Int)<=(p.length:Int)-1/\(p.length:Int)-1<((p++abi c::l.map abi).length:Int):=by omega
   rw [if_neg omg,aaf (aht _ omg omg),aaf hq,aaf hq,at_prev _ _ _ hp];have he:p.isEmpty=false:=by cases p with|nil=>exact absurd rfl hp|cons _ _=>rfl
   by_cases h45:at_ p ((p.length:Int)-1)=45
   ·have hfp:firstB p=true:=by simp [firstB,h45]
    rw [if_pos h45,up _ _ (fun h1 h2=>by rw [sub h1 h2];exact ihu) ihn,hfp,uplow];rfl
   ·have hfp:firstB p=false:=by simp [firstB,h45,he]
    rw [if_neg h45,zaa,cond_false,hfp];exact ihn
theorem refTitle_eq(s:Str)(hs:s.length<=9223372036854775807):acp FU (ahe s) FU (ahe s) 0=some (ago true s):=by
 have:=refTitle_lp (fu:=FU) (ahe s) (by simpa [ahe] using hs) s [] FU (by simp [ahe]) (by rw [FU_eq];omega)
 exact this
def aap(s:Str):Str×UInt8:=
 if isTok s=false\/64<s.length then([],5)
 else if s.length=1/\longN (abi (at_ s 0))≠[]then(longN (abi (at_ s 0)),0)
 else((abv FU (ahe s) FU 0).getD (.inl ())).elim (fun _=>(ago true s,0)) id
def specialO:List Str->Str->Option (Unit⊕(Str×UInt8))
 |[],_=>some (.inl ())
 |n::l,y=>if ahe n=y then some (.inr (n,0))else specialO l y
theorem ajr(y:Str):∀l,∃r,specialO l y=some r
 |[]=>⟨_,rfl⟩
 |n::l=>by
  unfold specialO;split
  ·exact⟨_,rfl⟩
  ·exact ajr y l
theorem special_list(y:Str):abv FU y FU 0=specialO ada y:=by kernel_rfl
theorem special_some(y:Str):∃r,abv FU y FU 0=some r:=by
 rw [special_list];exact ajr y _
theorem low_at(s:Str)(h:s.length=1):at_ (ahe s) 0=abi (at_ s 0):=by
 match s,h with
 |[c],_=>rfl
theorem canon_eq(s:Str)(hs:s.length<=9223372036854775807):acu FU s=some (aap s):=by
 unfold acu aap;rw [token_eq s hs,zaa];obtain⟨r,hr⟩:=special_some (ahe s);obtain⟨b,hb⟩:=title_eq s hs;cases ht:isTok s
 ·rfl
 ·rw [zbe,cond_false,zaa];by_cases h64:64<s.length
  ·rw [decide_eq_true omg,cond_true,if_pos (Or.inr h64)]
  ·have hc:¬(true=false\/64<s.length):=by simp [h64]
   rw [decide_eq_false omg,cond_false,if_neg hc,lower_eq s hs,zaa,hr,zaa,Option.getD_some];have hrest:Sum.elim (fun(v90:Unit)=>((aax FU s true).bind fun(y130:(Str×Bool))=>some (y130.1,(0:UInt8)))) (fun q=>some q) r=some (Sum.elim (fun _=>(ago true s,0)) id r):=by
    cases r with
    |inl _=>rw [zaZ,hb];rfl
    |inr _=>rfl
   by_cases h1:s.length=1
   ·have h1i:(s.length:Int)=1:=by omega
    rw [if_pos h1i,aaf omg,lowerByte_eq,zaa,long_eq,zaa];by_cases h2:longN (abi (at_ s 0))=[]
    ·rw [if_pos h2,zaa,zaZ,if_neg (fun h=>h.2 h2)];exact hrest
    ·rw [if_neg h2,zaa,Sum.elim_inr,if_pos ⟨h1,h2⟩]
   ·have h1i:¬(s.length:Int)=1:=by omega
    rw [if_neg h1i,zaa,zaZ,if_neg (fun h=>h1 h.1)];exact hrest
theorem refCanon_eq(s:Str)(hs:s.length<=9223372036854775807):aga FU s=some (aap s):=by
 unfold aga aap;rw [refToken_eq s hs,zaa];obtain⟨r,hr⟩:=special_some (ahe s);cases ht:isTok s
 ·rfl
 ·rw [zbe,cond_false,zaa];by_cases h64:64<s.length
  ·rw [decide_eq_true omg,cond_true,if_pos (Or.inr h64)]
  ·have hc:¬(true=false\/64<s.length):=by simp [h64]
   rw [decide_eq_false omg,cond_false,if_neg hc,hr,Option.getD_some,refLower_eq s hs,zaa,special_eq,hr,zaa,refTitle_eq s hs];have hll:(ahe s).length=s.length:=by simp [ahe]
   have hrest:Sum.elim (fun(v98:Unit)=>((some (ago true s)).bind fun(v293:Str)=>some (v293,(0:UInt8)))) (fun q=>some q) r=some (Sum.elim (fun _=>(ago true s,0)) id r):=by
    cases r<;>rfl
   by_cases h1:s.length=1
   ·have h1i:(s.length:Int)=1:=by omega
    rw [if_pos h1i,aaf omg,low_at s h1,short_eq,zaa,zaa];by_cases h2:longN (abi (at_ s 0))=[]
    ·rw [decide_eq_true h2,zbe,cond_false,if_neg (fun h=>h.2 h2)];exact hrest
    ·rw [decide_eq_false h2,Bool.not_false,cond_true,aaf omg,zaa,if_pos ⟨h1,h2⟩]
   ·have h1i:¬(s.length:Int)=1:=by omega
    rw [if_neg h1i,zaa,cond_false,if_neg (fun h=>h1 h.1)];exact hrest
theorem kind_lp{fu:Nat}(c:Str)(hn:∀x∈acn,x.1≠c)(n:Nat):∀(k fk:Nat),k+n=31->n<fk->adu fu c fk (k:Int)=some (.inl ()):=by
 have h31:acn.length=31:=by decide+kernel
 induction n with
 |zero=>
  intro k fk hk hf;obtain⟨fk,rfl⟩:=fkx fk;rw [afw,adi,if_neg omg]
 |succ n ih=>
  intro k fk hk hf;obtain⟨fk,rfl⟩:=fkx fk;have he:(el acn (k:Int)).1≠c:=by
   have:el acn (k:Int)=acn[k]'omg:=by simp [el,show k<acn.length by omega]
   rw [this];exact hn _ (List.getElem_mem _)
  rw [afw,adi,if_pos omg,aaf omg,aaf omg,if_neg he,aaf (aht _ omg omg)];exact ih (k+1) fk omg omg
theorem kind_not(c:Str)(hn:∀x∈acn,x.1≠c):afx FU c=some 0:=by
 unfold afx
 have:=kind_lp (fu:=FU) c hn 31 0 FU omg (by rw [FU_eq];omega)
 rw [show((0:Int))=((0:Nat):Int)from rfl,this];rfl
def manyP(c:Str):Bool:=(aeh FU c).getD false
theorem many_in:∀x∈acn,aeh FU x.1=some (manyP x.1):=by decide+kernel
theorem many_not(c:Str)(hn:∀x∈acn,x.1≠c):aeh FU c=some false:=by
 have hm:∀n:Str,(acn.any fun x=>x.1==n)=true->¬c=n:=fun n h e=>by
  obtain⟨x,hx,e'⟩:=List.any_eq_true.1 h;exact hn x hx ((eq_of_beq e').trans e.symm)
 unfold aeh;rw [if_neg (hm _ (by decide+kernel)),if_neg (hm _ (by decide+kernel)),if_neg (hm _ (by decide+kernel)),if_neg (hm _ (by decide+kernel)),if_neg (hm _ (by decide+kernel)),zaa,zaZ,kind_not c hn];rfl
theorem many_eq(c:Str):aeh FU c=some (manyP c):=by
 by_cases h:∃x∈acn,x.1=c
 ·obtain⟨x,hx,rfl⟩:=h;exact many_in x hx
 ·have:=many_not c fun x hx e=>h ⟨x,hx,e⟩
  rw [manyP,this];rfl
theorem manyLaw_eq(s:Str)(hs:s.length<=9223372036854775807):agd FU s=some (if(aap s).2=0 then manyP (aap s).1 else false):=by
 unfold agd;rw [canon_eq s hs,zaa];by_cases h:(aap s).2=0
 ·rw [if_pos h,if_pos h,many_eq];rfl
 ·rw [if_neg h,if_neg h];rfl
theorem gok{α:Type}{p:Prop}[Decidable p]{k:Option α}(h:p:=by first|omega|exact aht _ omg omg|(simp only [List.length_append,List.length_cons,List.length_nil,List.length_singleton];omega)):gd p k=k:=aaf h
theorem int_succ(k:Nat):(k:Int)+1=((k+1:Nat):Int):=rfl
theorem skip_gen(p:UInt8->Bool)(s:Str)(F:Nat->Int->Option Int)
  (h0:∀fk,F (fk+1) (s.length:Int)=some (s.length:Int))
  (h1:∀fk (k:Nat),k<s.length->p (at_ s k)=false->F (fk+1) (k:Int)=some (k:Int))
  (h2:∀fk (k:Nat),k<s.length->p (at_ s k)=true->F (fk+1) (k:Int)=F fk ((k:Int)+1)) (n:Nat):
  ∀(k fk:Nat),k+n=s.length->n<fk->F fk (k:Int)=some ((k+aiv p (s.drop k):Nat):Int):=by
 induction n with
 |zero=>
  intro k fk hk hf;obtain⟨fk,rfl⟩:=fkx fk;obtain rfl:k=s.length:=by omega
  rw [h0,List.drop_length];rfl
 |succ n ih=>
  intro k fk hk hf;obtain⟨fk,rfl⟩:=fkx fk;rw [drop_at s k omg];cases h:p (at_ s k)
  ·rw [h1 fk k omg h];simp [aiv,h]
  ·rw [h2 fk k omg h,int_succ,ih (k+1) fk omg omg];have e2:aiv p (at_ s k::s.drop (k+1))=1+aiv p (s.drop (k+1)):=by simp [aiv,h,Nat.add_comm]
   rw [e2,Nat.add_assoc]
theorem clamp_int(i:Int)(n:Nat):min (max i 0) (n:Int)=((aie i n:Nat):Int):=by unfold aie;omega
theorem char_blank(fu:Nat)(c:UInt8):acx fu c=some (adq c):=by
 show acx 0 c=_
 revert c;exact acs _ (by decide+kernel)
theorem char_control(fu:Nat)(c:UInt8):adh fu c=some (aib c):=by
 show adh 0 c=_
 revert c;exact acs _ (by decide+kernel)
theorem char_escaped(fu:Nat)(c:UInt8):adg fu c=some (aim c):=by
 show adg 0 c=_
 revert c;exact acs _ (by decide+kernel)
theorem blanks_eq(s:Str)(hs:s.length<=4194304)(i:Int):agm FU s i=some ((skipL adq s i:Nat):Int):=by
 unfold agm acd;have hc:=clampN_le i s.length;rw [clamp_int,skip_gen adq s (abe FU s) ?_ ?_ ?_ (s.length-aie i s.length) _ FU omg (by rw [FU_eq];omega)]
 ·rfl
 ·intro fk;rw [abq,aas,if_neg omg];rfl
 ·intro fk k hk h;rw [abq,aas,if_pos omg,gok,char_blank,h];rfl
 ·intro fk k hk h;rw [abq,aas,if_pos omg,gok,char_blank,h,zaa,zaa,cond_true,gok]
def rdw(p:UInt8->Bool)(l:Str):Str:=(l.reverse.dropWhile p).reverse
theorem rdw_cons(p:UInt8->Bool)(c:UInt8)(l:Str):rdw p (c::l)=if rdw p l=[]then(if p c then []else [c])else c::rdw p l:=by
 unfold rdw;rw [List.reverse_cons,List.dropWhile_append];cases h:l.reverse.dropWhile p with
 |nil=>cases hp:p c<;>simp [hp]
 |cons a t=>simp
theorem rdw_comm(p:UInt8->Bool):∀l:Str,(rdw p l).dropWhile p=rdw p (l.dropWhile p)
 |[]=>rfl
 |c::l=>by
  have ih:=rdw_comm p l;cases hp:p c
  ·have e:List.dropWhile p (c::l)=c::l:=by simp [hp]
   rw [e,rdw_cons];split<;>simp [hp]
  ·have e:List.dropWhile p (c::l)=l.dropWhile p:=by simp [hp]
   rw [e,<-ih,rdw_cons];split
   ·rename_i h;simp [h,hp]
   ·simp [hp]
theorem dw_idem(p:UInt8->Bool):∀l:Str,(l.dropWhile p).dropWhile p=l.dropWhile p
 |[]=>rfl
 |c::l=>by
  cases h:p c with
  |true=>rw [List.dropWhile_cons_of_pos h];exact dw_idem p l
  |false=>rw [List.dropWhile_cons_of_neg (by rw [h];decide),List.dropWhile_cons_of_neg (by rw [h];decide)]
def aic(s:Str):Str:=rdw adq (s.dropWhile adq)
theorem blank_set:(fun c=>([32,9]:Str).contains c)=adq:=by
 funext c;revert c;exact acs _ (by decide+kernel)
theorem dropWhile_span(p:UInt8->Bool):∀l:Str,l.drop (aiv p l)=l.dropWhile p
 |[]=>rfl
 |c::l=>by
  have ih:=dropWhile_span p l;cases hp:p c
  ·simp [aiv,hp]
  ·simp [aiv,hp,ih]
def unqL:Str->Nat->Str->Str×Int×UInt8
 |[],k,_=>([],(k:Int),6)
 |[c],k,acc=>if c=34 then(acc,((k+1:Nat):Int),0)else if c=92 then([],((k+1:Nat):Int),6)else if aib c then([],(k:Int),5)else([],((k+1:Nat):Int),6)
 |c::d::r,k,acc=>
  if c=34 then(acc,((k+1:Nat):Int),0)
  else if c=92 then(if aim d then unqL r (k+2) (acc++[d])else([],(k:Int),5))
  else if aib c then([],(k:Int),5)else unqL (d::r) (k+1) (acc++[c])
theorem unqL_cons(c:UInt8)(l:Str)(k:Nat)(acc:Str):unqL (c::l) k acc=
  if c=34 then(acc,((k+1:Nat):Int),0)
  else if c=92 then(if l=[]then([],((k+1:Nat):Int),6)else if aim (at_ l 0)then unqL (l.drop 1) (k+2) (acc++[at_ l 0])else([],(k:Int),5))
  else if aib c then([],(k:Int),5)else unqL l (k+1) (acc++[c]):=by
 cases l with
 |nil=>simp [unqL]
 |cons d r=>simp [unqL,at_]
def unqP8(s:Str)(i:Int):Str×Int×UInt8:=
 if i<0\/(s.length:Int)<i then([],0,2)
 else if i=(s.length:Int)\/at_ s i≠34 then([],i,5)
 else unqL (s.drop (i.toNat+1)) (i.toNat+1) []
theorem at_drop1(s:Str)(k:Nat):at_ (s.drop k) 0=at_ s (k:Int):=by simp [at_]
theorem drop_nil_iff(s:Str)(k:Nat):s.drop k=[]↔s.length<=k:=by rw [List.drop_eq_nil_iff]
def unqFin(s:Str)(j:((Str×Int)⊕(Str×Int×UInt8))):Option (Str×Int×UInt8):=
 Sum.elim (fun(v:(Str×Int))=>(if(s.length:Int)<=v.2 then some (([]:Str),(s.length:Int),(6:UInt8))else(gd (afr (v.2+(1:Int)))<|some (v.1,v.2+(1:Int),(0:UInt8))))) (fun q=>some q) j
theorem unq_lp(s:Str)(hs:s.length<=4194304)(n:Nat):∀(k fk:Nat) (acc:Str),s.length-k<=n->n<fk->k<=s.length->acc.length<=k->
  ((ads FU s fk acc (k:Int)).bind (unqFin s))=some (unqL (s.drop k) k acc):=by
 induction n with
 |zero=>
  intro k fk acc hn hf hk ha;obtain⟨fk,rfl⟩:=fkx fk;obtain rfl:k=s.length:=by omega
  rw [aeg,acj,if_neg omg,List.drop_length,zaa];unfold unqFin;rw [zaZ,if_pos (by simp)];rfl
 |succ n ih=>
  intro k fk acc hn hf hk ha;obtain⟨fk,rfl⟩:=fkx fk;by_cases hl:k<s.length
  ·rw [drop_at s k hl,unqL_cons,aeg,acj,if_pos omg,gok];by_cases h1:at_ s (k:Int)=34
   ·rw [if_pos h1,if_pos h1,zaa];unfold unqFin;rw [zaZ,if_neg (by simp;omega),aaf (aht _ (by simp;omega) (by simp;omega))];rfl
   ·rw [if_neg h1,if_neg h1];by_cases h2:at_ s (k:Int)=92
    ·rw [if_pos h2,if_pos h2,gok];by_cases h3:k+1=s.length
     ·rw [if_pos omg,if_pos ((drop_nil_iff s (k+1)).2 omg),zaa];unfold unqFin;rw [Sum.elim_inr,h3]
     ·rw [if_neg omg,if_neg (fun h=>h3 (by have:=(drop_nil_iff s (k+1)).1 h;omega)),gok,gok,char_escaped,zaa,at_drop1,int_succ];cases h4:aim (at_ s ((k+1:Nat):Int))
      ·rfl
      ·rw [zbe,cond_false,if_pos rfl,gok,gok,gok,gok,List.drop_drop,int_succ,
        ih (k+1+1) fk _ omg omg omg (by simp;omega)]
    ·rw [if_neg h2,if_neg h2,char_control,zaa];cases h4:aib (at_ s (k:Int))
     ·rw [cond_false,if_neg (by decide),gok,gok,gok,int_succ,ih (k+1) fk _ omg omg omg (by simp;omega)]
     ·rfl
  ·obtain rfl:k=s.length:=by omega
   rw [aeg,acj,if_neg omg,List.drop_length,zaa];unfold unqFin;rw [zaZ,if_pos (by simp)];rfl
theorem unquote_eq(s:Str)(hs:s.length<=4194304)(i:Int):afv FU s i=some (unqP8 s i):=by
 unfold afv unqP8;by_cases h1:i<0
 ·rw [if_pos h1,if_pos (show i<0\/(s.length:Int)<i from .inl h1)];rfl
 ·rw [if_neg h1,zaa];by_cases h2:(s.length:Int)<i
  ·rw [decide_eq_true h2,if_pos (show i<0\/(s.length:Int)<i from .inr h2)];rfl
  ·rw [decide_eq_false h2,cond_false,if_neg (show¬(i<0\/(s.length:Int)<i)by omega)];by_cases h3:i=(s.length:Int)
   ·rw [if_pos h3,if_pos (show i=(s.length:Int)\/at_ s i≠34 from .inl h3)];rfl
   ·rw [if_neg h3,gok,zaa];by_cases h4:at_ s i=34
    ·rw [decide_eq_true h4,zbe,cond_false,if_neg (by simp [h3,h4]),gok];obtain⟨k,rfl⟩:∃k:Nat,i=(k:Int):=⟨i.toNat,by omega⟩
     exact unq_lp s hs s.length (k+1) FU [] omg (by rw [FU_eq];omega) omg (by simp)
    ·rw [decide_eq_false h4,if_pos (show i=(s.length:Int)\/at_ s i≠34 from .inr h4)];rfl
theorem sub_self'(s:Str)(k:Nat):sub s (k:Int) (k:Int)=[]:=by unfold sub;simp
theorem index_ge(p:Str):∀l:Str,-1<=Lib.index l p
 |[]=>by unfold Lib.index;split<;>omega
 |b::l=>by
  have:=index_ge p l
  rw [Lib.index];split
  ·omega
  ·split
   ·omega
   ·omega
open UInt8 renaming ofNat -> zaQ
def dg(n:Fin 10):UInt8:=zaQ (48+n.val)
open List renaming eq_nil_of_length_eq_zero -> zaA, length_append -> zae, length_cons -> zaf, length_drop -> zaI, length_singleton -> zaw
theorem unqL_bd(n:Nat):∀(l:Str) (k:Nat) (acc:Str),l.length<=n->(unqL l k acc).1.length<=acc.length+l.length/\((unqL l k acc).2.2=0->(k:Int)+1<=(unqL l k acc).2.1/\(unqL l k acc).2.1<=((k+l.length:Nat):Int)):=by
 induction n with
 |zero=>
  intro l k acc hl;obtain rfl:l=[]:=zaA omg;exact⟨by simp [unqL],fun h=>absurd h (show¬((6:UInt8)=0)by decide)⟩
 |succ n ih=>
  intro l k acc hl;cases l with
  |nil=>exact⟨by simp [unqL],fun h=>absurd h (show¬((6:UInt8)=0)by decide)⟩
  |cons c l=>
   simp only [zaf]at hl;rw [unqL_cons];by_cases h1:c=34
   ·rw [if_pos h1];exact⟨by simp,fun _=>⟨by simp,by simp only [zaf];omega⟩⟩
   ·rw [if_neg h1];by_cases h2:c=92
    ·rw [if_pos h2];by_cases h3:l=[]
     ·rw [if_pos h3];exact⟨by simp,fun h=>absurd h (show¬((6:UInt8)=0)by decide)⟩
     ·rw [if_neg h3];have hpos:0<l.length:=List.length_pos_iff.2 h3;cases h4:aim (at_ l 0)with
      |true=>
       rw [if_pos rfl]
       have:=ih (l.drop 1) (k+2) (acc++[at_ l 0]) (by rw [zaI];omega)
       rw [zae,zaw,zaI]at this;exact⟨by simp only [zaf];omega,fun h=>⟨by have:=(this.2 h).1;omega,by have:=(this.2 h).2;simp only [zaf];omega⟩⟩
      |false=>rw [if_neg (by decide)];exact⟨by simp,fun h=>absurd h (show¬((5:UInt8)=0)by decide)⟩
    ·rw [if_neg h2];cases h4:aib c with
     |true=>rw [if_pos rfl];exact⟨by simp,fun h=>absurd h (show¬((5:UInt8)=0)by decide)⟩
     |false=>
      rw [if_neg (by decide)]
      have:=ih l (k+1) (acc++[c]) omg
      rw [zae,zaw]at this;exact⟨by simp only [zaf];omega,fun h=>⟨by have:=(this.2 h).1;omega,by have:=(this.2 h).2;simp only [zaf];omega⟩⟩
open Bool renaming and_eq_true -> zas
open List renaming cons_append -> zaz
def consE(x:Str):(List Str⊕UInt8)->(List Str⊕UInt8)
 |.inl l=>.inl (x::l)
 |.inr e=>.inr e
def spS:Nat->Str->Str->List Str⊕UInt8
 |0,cur,[]=>.inl [aic cur]
 |_+1,_,[]=>.inr 6
 |0,cur,c::l=>if c=34 then spS 1 (cur++[c]) l else if c=60 then spS 3 (cur++[c]) l else if c=62 then .inr 5 else if c=44 then consE (aic cur) (spS 0 [] l)else spS 0 (cur++[c]) l
 |1,cur,c::l=>if c=34 then spS 0 (cur++[c]) l else if c=92 then spS 2 (cur++[c]) l else if aib c=true then .inr 5 else spS 1 (cur++[c]) l
 |2,cur,c::l=>if aim c=true then spS 1 (cur++[c]) l else .inr 5
 |_+3,cur,c::l=>if c=62 then spS 0 (cur++[c]) l else spS 3 (cur++[c]) l
theorem s0n(cur:Str):spS 0 cur []=.inl [aic cur]:=by rw [spS]
theorem s0c(cur:Str)(c:UInt8)(l:Str):spS 0 cur (c::l)=if c=34 then spS 1 (cur++[c]) l else if c=60 then spS 3 (cur++[c]) l else if c=62 then .inr 5 else if c=44 then consE (aic cur) (spS 0 [] l)else spS 0 (cur++[c]) l:=by rw [spS]
theorem s1c(cur:Str)(c:UInt8)(l:Str):spS 1 cur (c::l)=if c=34 then spS 0 (cur++[c]) l else if c=92 then spS 2 (cur++[c]) l else if aib c=true then .inr 5 else spS 1 (cur++[c]) l:=by rw [spS]
theorem s2c(cur:Str)(c:UInt8)(l:Str):spS 2 cur (c::l)=if aim c=true then spS 1 (cur++[c]) l else .inr 5:=by rw [spS]
theorem s3c(m:Nat)(cur:Str)(c:UInt8)(l:Str):spS (m+3) cur (c::l)=if c=62 then spS 0 (cur++[c]) l else spS 3 (cur++[c]) l:=by rw [spS]
theorem s3c'(cur:Str)(c:UInt8)(l:Str):spS 3 cur (c::l)=if c=62 then spS 0 (cur++[c]) l else spS 3 (cur++[c]) l:=s3c 0 cur c l
def lstP(v:Str):List Str×UInt8:=match spS 0 [] v with|.inr e=>([],e)|.inl l=>if l.any (fun x=>decide (x=[]))=true then([],5)else(l,0)
theorem dw_all(p:UInt8->Bool):∀(a b:Str),a.all p=true->(a++b).dropWhile p=b.dropWhile p
 |[],b,_=>rfl
 |c::a,b,h=>by
  rw [List.all_cons,zas]at h;rw [zaz,List.dropWhile_cons_of_pos h.1,dw_all p a b h.2]
theorem trim_pre(a x:Str)(h:a.all adq=true):aic (a++x)=aic x:=by
 unfold aic;rw [dw_all adq a x h]
theorem trim_trim(x:Str):aic (aic x)=aic x:=by
 unfold aic;rw [rdw_comm,dw_idem];unfold rdw;rw [List.reverse_reverse,dw_idem]
theorem consE_inl{x:Str}{r:List Str⊕UInt8}{l:List Str}(h:consE x r=.inl l):∃m,r=.inl m/\l=x::m:=by
 cases r with
 |inl m=>exact⟨m,rfl,(Sum.inl.inj h).symm⟩
 |inr e=>cases h
theorem aiq:∀(s:Str) (m:Nat) (cur:Str) (l:List Str),spS m cur s=.inl l->l≠[]/\∀x∈l,∃y,x=aic y
 |[],0,cur,l,h=>by
  rw [spS]at h
  have:=Sum.inl.inj h
  subst this;exact⟨by simp,fun x hx=>⟨cur,List.mem_singleton.1 hx⟩⟩
 |[],m+1,cur,l,h=>by cases h
 |c::s,0,cur,l,h=>by
  rw [spS]at h;split at h
  ·exact aiq s _ _ l h
  ·split at h
   ·exact aiq s _ _ l h
   ·split at h
    ·cases h
    ·split at h
     ·obtain⟨m,h1,rfl⟩:=consE_inl h;obtain⟨_,h2⟩:=aiq s _ _ m h1;refine⟨by simp,fun x hx=> ?_⟩
      rcases List.mem_cons.1 hx with h|h
      ·exact⟨cur,h⟩
      ·exact h2 x h
     ·exact aiq s _ _ l h
 |c::s,1,cur,l,h=>by
  rw [spS]at h;split at h
  ·exact aiq s _ _ l h
  ·split at h
   ·exact aiq s _ _ l h
   ·split at h
    ·cases h
    ·exact aiq s _ _ l h
 |c::s,2,cur,l,h=>by
  rw [spS]at h;split at h
  ·exact aiq s _ _ l h
  ·cases h
 |c::s,m+3,cur,l,h=>by
  rw [spS]at h;split at h
  ·exact aiq s _ _ l h
  ·exact aiq s _ _ l h
theorem sp_err:∀(l:Str) (m:Nat) (cur:Str) (e:UInt8),spS m cur l=.inr e->e≠0:=by
 intro l;induction l with
 |nil=>
  intro m cur e h;cases m with
  |zero=>cases h
  |succ m=>rw [<-Sum.inr.inj h];decide
 |cons c l ih=>
  intro m cur e h
  match m with
  |0=>
   rw [spS]at h;split at h
   ·exact ih _ _ _ h
   ·split at h
    ·exact ih _ _ _ h
    ·split at h
     ·rw [<-Sum.inr.inj h];decide
     ·split at h
      ·cases hr:spS 0 [] l with
       |inl q=>rw [hr]at h;cases h
       |inr e'=>rw [hr]at h;rw [<-Sum.inr.inj h];exact ih _ _ _ hr
      ·exact ih _ _ _ h
  |1=>
   rw [spS]at h;split at h
   ·exact ih _ _ _ h
   ·split at h
    ·exact ih _ _ _ h
    ·split at h
     ·rw [<-Sum.inr.inj h];decide
     ·exact ih _ _ _ h
  |2=>
   rw [spS]at h;split at h
   ·exact ih _ _ _ h
   ·rw [<-Sum.inr.inj h];decide
  |m+3=>
   rw [spS]at h;split at h
   ·exact ih _ _ _ h
   ·exact ih _ _ _ h
theorem lstP_mem(v:Str)(h:(lstP v).2=0):(lstP v).1≠[]/\∀x∈(lstP v).1,aic x=x/\x≠[]:=by
 unfold lstP at h⊢;cases hs:spS 0 [] v with
 |inr e=>
  rw [hs]at h;simp only at h;exact absurd h (sp_err v 0 [] e hs)
 |inl l=>
  rw [hs]at h;simp only at h⊢;by_cases ha:l.any (fun x=>decide (x=[]))=true
  ·rw [if_pos ha]at h;exact absurd h (show¬(5:UInt8)=0 by decide)
  ·rw [if_neg ha];obtain⟨h1,h2⟩:=aiq v 0 [] l hs;refine⟨h1,fun x hx=>⟨?_,fun e=>ha (List.any_eq_true.2 ⟨x,hx,decide_eq_true e⟩)⟩⟩
   obtain⟨y,rfl⟩:=h2 x hx;exact trim_trim y
open Int renaming toNat -> zah, toNat_natCast -> zaq
open List renaming append_assoc -> zaC, append_nil -> zaS, drop_succ_cons -> zbg, eq_nil_of_length_eq_zero -> zaA, length_append -> zae, length_cons -> zaf, length_drop -> zaI, length_map -> zax, length_singleton -> zaw, map_append -> zbc, map_cons -> zao
open Nat renaming le_refl -> zab
theorem trimR_eq(x:Str):Lib.trimRightS x [32,9]=rdw adq x:=by
 unfold Lib.trimRightS rdw;rw [blank_set]
theorem span_take(p:UInt8->Bool):∀(l:Str) (n:Nat),aiv p (l.take n)=min (aiv p l) n
 |[],n=>by rw [List.take_nil];simp [aiv]
 |c::l,0=>by rw [List.take_zero];simp [aiv]
 |c::l,n+1=>by
  rw [List.take_succ_cons,aiv,aiv];split
  ·rw [span_take p l n];omega
  ·omega
theorem piece_eq2(s:Str)(hs:s.length<=4194304)(b e:Nat)(hbe:b<=e)(he:e<=s.length):∃k,agc FU s (b:Int) (e:Int)=some (k,aic (sub s (b:Int) (e:Int))):=by
 have hk:skipL adq s (b:Int)=b+aiv adq (s.drop b):=by unfold skipL;rw [clampN_of_nat b s.length (by omega)]
 have hT:sub s (b:Int) (e:Int)=(s.drop b).take (e-b):=by unfold sub;rw [zaq,zaq]
 have hmin:min ((skipL adq s (b:Int):Nat):Int) (e:Int)=((b+aiv adq (sub s (b:Int) (e:Int)):Nat):Int):=by
  rw [hT,span_take,hk];omega
 have hsp:=span_le adq (sub s (b:Int) (e:Int));have hl:(sub s (b:Int) (e:Int)).length=e-b:=by rw [sub_len];omega
 have hsub:sub s ((b+aiv adq (sub s (b:Int) (e:Int)):Nat):Int) (e:Int)=(sub s (b:Int) (e:Int)).dropWhile adq:=by
  rw [<-dropWhile_span];generalize aiv adq (sub s (b:Int) (e:Int))=n;rw [hT];unfold sub;rw [zaq,zaq,List.drop_take,List.drop_drop];congr 1
  omega
 have hsl:=sub_le s ((b+aiv adq (sub s (b:Int) (e:Int)):Nat):Int) (e:Int);unfold agc;rw [blanks_eq s hs,zaa,hmin,aaf (by omega),aaf (by omega),aaf (by decide),hsub,trimR_eq];exact⟨_,rfl⟩
theorem sub_ext3(s:Str)(b i m:Nat)(hb:b<=i):sub s (b:Int) ((i+m:Nat):Int)=sub s (b:Int) (i:Int)++(s.drop i).take m:=by
 unfold sub;rw [zaq,zaq,zaq,show i+m-b=(i-b)+m by omega,List.take_add,List.drop_drop,show b+(i-b)=i by omega]
theorem quote1(n:Nat):∀(l:Str) (k:Nat) (acc cur:Str),l.length<=n->
  ((unqL l k acc).2.2=0->spS 1 cur l=spS 0 (cur++l.take ((unqL l k acc).2.1.toNat-k)) (l.drop ((unqL l k acc).2.1.toNat-k)))/\(¬(unqL l k acc).2.2=0->spS 1 cur l=.inr (unqL l k acc).2.2):=by
 induction n with
 |zero=>
  intro l k acc cur h;obtain rfl:l=[]:=zaA (by omega);have e:unqL [] k acc=([],(k:Int),6):=by unfold unqL;rfl
  rw [e];exact⟨fun h=>absurd h (show¬(6:UInt8)=0 by decide),fun _=>rfl⟩
 |succ n ih=>
  intro l k acc cur h;cases l with
  |nil=>
   have e:unqL [] k acc=([],(k:Int),6):=by unfold unqL;rfl
   rw [e];exact⟨fun h=>absurd h (show¬(6:UInt8)=0 by decide),fun _=>rfl⟩
  |cons c l=>
   rw [zaf]at h;rw [unqL_cons,s1c];by_cases h34:c=34
   ·rw [if_pos h34,if_pos h34];refine⟨fun _=> ?_,fun h=>absurd rfl h⟩
    dsimp only;rw [show zah (((k+1:Nat):Int))-k=1 by omega];rfl
   ·rw [if_neg h34,if_neg h34];by_cases h92:c=92
    ·rw [if_pos h92,if_pos h92];cases l with
     |nil=>
      rw [if_pos rfl];exact⟨fun h=>absurd h (show¬(6:UInt8)=0 by decide),fun _=>rfl⟩
     |cons d r=>
      have ha:at_ (d::r) 0=d:=rfl;rw [if_neg (by simp),ha,s2c];cases he:aim d with
      |false=>
       rw [if_neg (by decide),if_neg (by decide)];exact⟨fun h=>absurd h (show¬(5:UInt8)=0 by decide),fun _=>rfl⟩
      |true=>
       rw [if_pos rfl,if_pos rfl,List.drop_one,List.tail_cons];rw [zaf]at h;obtain⟨i1,i2⟩:=ih r (k+2) (acc++[d]) ((cur++[c])++[d]) (by omega);have hbd:=(unqL_bd r.length r (k+2) (acc++[d]) (zab _)).2;refine⟨fun h0=> ?_,i2⟩
       have hb:=hbd h0;rw [i1 h0];have e:(unqL r (k+2) (acc++[d])).2.1.toNat-k=((unqL r (k+2) (acc++[d])).2.1.toNat-(k+2))+2:=by omega
       rw [e,List.take_succ_cons,List.take_succ_cons,zbg,zbg];simp
    ·rw [if_neg h92,if_neg h92];cases hc:aib c with
     |true=>
      rw [if_pos rfl];exact⟨fun h=>absurd h (show¬(5:UInt8)=0 by decide),fun _=>rfl⟩
     |false=>
      obtain⟨i1,i2⟩:=ih l (k+1) (acc++[c]) (cur++[c]) (by omega);have hbd:=(unqL_bd l.length l (k+1) (acc++[c]) (zab _)).2;rw [if_neg (by decide)];refine⟨fun h0=> ?_,i2⟩
      have hb:=hbd h0;have e0:(if false=true then(.inr 5:List Str⊕UInt8)else spS 1 (cur++[c]) l)=spS 1 (cur++[c]) l:=if_neg (by decide);have e:(unqL l (k+1) (acc++[c])).2.1.toNat-k=((unqL l (k+1) (acc++[c])).2.1.toNat-(k+1))+1:=by omega
      rw [i1 h0,e,List.take_succ_cons,zbg];simp
theorem ang1:∀(l cur:Str),(ixb (·==(62:UInt8)) l<0->spS 3 cur l=.inr 6)/\(¬ixb (·==(62:UInt8)) l<0->spS 3 cur l=spS 0 (cur++l.take ((ixb (·==(62:UInt8)) l).toNat+1)) (l.drop ((ixb (·==(62:UInt8)) l).toNat+1)))
 |[],cur=>⟨fun _=>rfl,fun h=>absurd (show(-1:Int)<0 by decide) h⟩
 |c::l,cur=>by
  obtain⟨i1,i2⟩:=ang1 l (cur++[c]);have hge:=ixb_ge (·==(62:UInt8)) l;rw [s3c'];by_cases h:c=62
  ·have e:ixb (·==(62:UInt8)) (c::l)=0:=by rw [ixb,h];rfl
   rw [e,if_pos h];exact⟨fun h=>absurd h (by decide),fun _=>rfl⟩
  ·have hb:(c==(62:UInt8))=false:=beq_eq_false_iff_ne.2 h;rw [if_neg h,ixb,hb,if_neg (by decide)];by_cases hn:ixb (·==(62:UInt8)) l= -1
   ·rw [if_pos hn];refine⟨fun _=>i1 (by omega),fun h=>absurd (show(-1:Int)<0 by decide) h⟩
   ·rw [if_neg hn];refine⟨fun h=>absurd h (by omega),fun _=> ?_⟩
    rw [i2 (by omega),show zah (ixb (·==(62:UInt8)) l+1)+1=((ixb (·==(62:UInt8)) l).toNat+1)+1 by omega,List.take_succ_cons,zbg];simp
theorem split_lp(s:Str)(hs:s.length<=4194303)(n:Nat):∀(i fk:Nat) (acc:List (Int×Str)) (b:Nat),s.length-i<=n->n<fk->b<=i->i<=s.length->acc.length<=i->
  ∃j,adn FU s 44 fk acc (b:Int) (i:Int)=some j/\
   (match spS 0 (sub s (b:Int) (i:Int)) (s.drop i)with
   |.inl l=>∃(acc':List (Int×Str)) (b':Nat),j=.inl (acc',(b':Int))/\b'<=s.length/\acc'.length<=s.length/\acc'.map (·.2)++[aic (sub s (b':Int) (s.length:Int))]=acc.map (·.2)++l
   |.inr e=>∃q a,j=.inr (q,a,e)):=by
 induction n with
 |zero=>
  intro i fk acc b hi hf hb hil ha;obtain⟨fk,rfl⟩:=fkx fk;obtain rfl:i=s.length:=by omega
  rw [afc,acy,if_neg (by omega),List.drop_eq_nil_of_le (zab _),s0n];exact⟨_,rfl,acc,b,rfl,by omega,ha,rfl⟩
 |succ n ih=>
  intro i fk acc b hi hf hb hil ha;obtain⟨fk,rfl⟩:=fkx fk;by_cases hlt:i<s.length
  ·have hd:=drop_at s i hlt;have hsn:sub s (b:Int) ((i+1:Nat):Int)=sub s (b:Int) (i:Int)++[at_ s (i:Int)]:=by
    rw [sub_ext3 s b i 1 hb,hd];rfl
   rw [afc,acy,if_pos (by omega),aaf (by omega),hd,s0c];by_cases h34:at_ s (i:Int)=34
   ·rw [if_pos h34,if_pos h34,unquote_eq s (by omega),zaa];have hu:unqP8 s (i:Int)=unqL (s.drop (i+1)) (i+1) []:=by
     unfold unqP8;rw [if_neg (by omega),if_neg (by rintro(h|h);omega;exact h h34),zaq]
    have hq:=quote1 (s.drop (i+1)).length (s.drop (i+1)) (i+1) [] (sub s (b:Int) (i:Int)++[at_ s (i:Int)]) (zab _);have hbd:=(unqL_bd (s.drop (i+1)).length (s.drop (i+1)) (i+1) [] (zab _)).2;have hdl:(s.drop (i+1)).length=s.length-(i+1):=zaI;rw [hu];generalize unqL (s.drop (i+1)) (i+1) []=U at hq hbd⊢;by_cases h0:U.2.2=0
    ·obtain⟨b1,b2⟩:=hbd h0;obtain⟨o,ho⟩:∃o:Nat,U.2.1=(o:Int):=⟨U.2.1.toNat,by omega⟩
     rw [ho]at b1 b2;have e1:=hq.1 h0;rw [ho,zaq,<-hsn,<-sub_ext3 s b (i+1) (o-(i+1)) (by omega),List.drop_drop,show i+1+(o-(i+1))=o by omega]at e1;rw [if_pos h0,ho,<-hsn,e1];exact ih o fk acc b (by omega) (by omega) (by omega) (by omega) (by omega)
    ·rw [if_neg h0,hq.2 h0];exact⟨_,rfl,_,_,rfl⟩
   ·rw [if_neg h34,if_neg h34];by_cases h60:at_ s (i:Int)=60
    ·have hx:spS 3 (sub s (b:Int) (i:Int)) (s.drop i)=spS 3 (sub s (b:Int) (i:Int)++[at_ s (i:Int)]) (s.drop (i+1)):=by
      rw [hd,s3c',if_neg (by rw [h60];decide)]
     obtain⟨a1,a2⟩:=ang1 (s.drop i) (sub s (b:Int) (i:Int));have hdl:(s.drop i).length=s.length-i:=zaI;have hsp:=ixb_spec (·==(62:UInt8)) (s.drop i);rw [if_pos h60,if_pos h60,aaf (by omega),zaq,<-hx];generalize ixb (·==(62:UInt8)) (s.drop i)=x at a1 a2 hsp⊢;by_cases hx0:x<0
     ·rw [if_pos hx0,a1 hx0];exact⟨_,rfl,_,_,rfl⟩
     ·rw [if_neg hx0,a2 hx0,<-sub_ext3 s b i (x.toNat+1) hb,List.drop_drop,aaf (aht _ (by omega) (by omega)),aaf (aht _ (by omega) (by omega)),show(i:Int)+(x+1)=((i+(x.toNat+1):Nat):Int)by omega];exact ih (i+(x.toNat+1)) fk acc b (by omega) (by omega) (by omega) (by omega) (by omega)
    ·rw [if_neg h60,if_neg h60];by_cases h62:at_ s (i:Int)=62
     ·rw [if_pos h62,if_pos h62];exact⟨_,rfl,_,_,rfl⟩
     ·rw [if_neg h62,if_neg h62];by_cases h44:at_ s (i:Int)=44
      ·obtain⟨k,hp⟩:=piece_eq2 s (by omega) b i hb hil;rw [if_pos h44,if_pos h44,hp,zaa,aaf (by rw [zaw];omega),aaf (aht _ (by omega) (by omega)),int_succ];obtain⟨j,g1,g2⟩:=ih (i+1) fk (acc++[(k,aic (sub s (b:Int) (i:Int)))]) (i+1) (by omega) (by omega) (zab _) hlt (by rw [zae,zaw];omega);refine⟨j,g1, ?_⟩
       rw [sub_self']at g2;cases hr:spS 0 [] (s.drop (i+1))with
       |inr e=>rw [hr]at g2;exact g2
       |inl l=>
        rw [hr]at g2;obtain⟨acc',b',q1,q2,q3,q4⟩:=g2;refine⟨acc',b',q1,q2,q3, ?_⟩
        rw [q4,zbc,List.map_singleton,zaC];rfl
      ·rw [if_neg h44,if_neg h44,aaf (aht _ (by omega) (by omega)),int_succ,<-hsn];exact ih (i+1) fk acc b (by omega) (by omega) (by omega) hlt (by omega)
  ·obtain rfl:i=s.length:=by omega
   rw [afc,acy,if_neg (by omega),List.drop_eq_nil_of_le (zab _),s0n];exact⟨_,rfl,acc,b,rfl,by omega,ha,rfl⟩
theorem split_eq2(s:Str)(hs:s.length<=4194303):∃q a,aho FU s 44=some (q,a,(match spS 0 [] s with|.inl _=>0|.inr e=>e))/\(∀l,spS 0 [] s=.inl l->q.map (·.2)=l/\q.length<=s.length+1):=by
 obtain⟨j,h1,h2⟩:=split_lp s hs s.length 0 FU [] 0 (by omega) (by rw [FU_eq];omega) (zab _) (Nat.zero_le _) (zab _);have h1':adn FU s 44 FU [] (0:Int) (0:Int)=some j:=h1;rw [sub_self',List.drop_zero]at h2;unfold aho;rw [char_blank,zaa];have e:(bif adq 44 then some true else(if(44:UInt8)=(34:UInt8)then some true else(if(44:UInt8)=(60:UInt8)then some true else some (decide ((44:UInt8)=(62:UInt8))))))=some false:=by decide
 rw [e,zaa,cond_false,h1',zaa];cases hr:spS 0 [] s with
 |inr e=>
  rw [hr]at h2;obtain⟨q,a,rfl⟩:=h2;rw [Sum.elim_inr];exact⟨q,a,rfl,fun l h=>by cases h⟩
 |inl l=>
  rw [hr]at h2;obtain⟨acc',b',rfl,q2,q3,q4⟩:=h2;obtain⟨k,hp⟩:=piece_eq2 s (by omega) b' s.length q2 (zab _);rw [zaZ];dsimp only;rw [hp,zaa,aaf (by rw [zaw];omega)];refine⟨_,_,rfl,fun l' h=> ?_⟩
  have:=Sum.inl.inj h
  subst this;rw [zbc,List.map_singleton,q4];exact⟨rfl,by rw [zae,zaw];omega⟩
theorem hlist_lp(y1:((List (Int×Str))×Int×UInt8))(hy:y1.1.length<=4194304)(q:List (Int×Str)):∀(p:List (Int×Str)) (fk:Nat),y1.1=p++q->q.length<fk->
  ado FU y1 fk (p.map (·.2)) (p.length:Int)=some (if(q.map (·.2)).any (fun x=>decide (x=[]))=true then .inr ([],5)else .inl (y1.1.map (·.2))):=by
 induction q with
 |nil=>
  intro p fk h hf;obtain⟨fk,rfl⟩:=fkx fk;rw [zaS]at h;rw [agt,aei,if_neg (by rw [h];omega),h];rfl
 |cons a q ih=>
  intro p fk h hf;obtain⟨fk,rfl⟩:=fkx fk;have hl:=congrArg List.length h;simp only [zae,zaf]at hl hf;have hb:(0:Int)<=(p.length:Int)/\(p.length:Int)<(y1.1.length:Int):=by omega
  have he:el y1.1 (p.length:Int)=a:=by rw [h];simp [el]
  rw [agt,aei,if_pos hb.2,aaf hb,aaf hb,he,zao,List.any_cons];by_cases h0:a.2=[]
  ·rw [if_pos h0,decide_eq_true h0,Bool.true_or,if_pos rfl]
  ·rw [if_neg h0,decide_eq_false h0,Bool.false_or,aaf (by simp only [zax,zaw];omega),aaf (aht _ (by omega) (by omega))]
   have:=ih (p++[a]) fk (by rw [h];simp) (by omega)
   rw [zbc,List.map_singleton]at this;rw [show((p.length:Int)+1)=((p++[a]).length:Int)by simp];exact this
theorem list_eq2(v:Str)(hv:v.length<=4194303):ahq FU v=some (lstP v):=by
 obtain⟨q,a,e1,e2⟩:=split_eq2 v hv;unfold ahq lstP;rw [e1,zaa];have hne:=sp_err v 0 [];cases hr:spS 0 [] v with
 |inr e=>
  dsimp only;rw [if_neg (hne e hr)]
 |inl l=>
  obtain⟨h1,h2⟩:=e2 l hr;dsimp only
  have:=hlist_lp (q,a,0) (by dsimp only;omega) q [] FU rfl (by rw [FU_eq];omega)
  have this':ado FU (q,a,0) FU [] (0:Int)=_:=this;rw [if_pos rfl,this',zaa,h1];by_cases h0:l.any (fun x=>decide (x=[]))=true
  ·rw [if_pos h0,if_pos h0,Sum.elim_inr]
  ·rw [if_neg h0,if_neg h0,zaZ]
open List renaming append_assoc -> zaC, append_nil -> zaS, filter_append -> zbn, length_append -> zae, length_cons -> zaf, length_singleton -> zaw, map_cons -> zao, not_mem_nil -> zbf, replicate -> zag, take_left -> zaW
abbrev HH:=Str×Str
abbrev MM:=Str×Str×Int×Str×List HH×List UInt8
def hsz(l:List HH):Nat:=(l.map fun z=>z.1.length+z.2.length).sum
theorem hsz_mem{l:List HH}{h:HH}(hm:h∈l):h.1.length+h.2.length<=hsz l:=by
 induction l with
 |nil=>cases hm
 |cons a l ih=>
  unfold hsz;rw [zao,List.sum_cons];rcases List.mem_cons.1 hm with rfl|hm
  ·omega
  ·have:=ih hm;unfold hsz at this;omega
def Sm(l:List HH):Prop:=l.length<=4194304/\∀h∈l,h.1.length<=4194303/\h.2.length<=4194303
theorem sm_of{l:List HH}(h1:l.length<=4194304)(h2:hsz l<=4194303):Sm l:=⟨h1,fun h hm=>by have:=hsz_mem hm;omega⟩
def pN(c:UInt8)(s:Str)(h:HH):Bool:=decide (c=0)&&decide ((aap h.1).2=0)&&decide ((aap h.1).1=s)
def nmP(name:Str):HH->Bool:=pN (aap name).2 (aap name).1
def fullP(name:Str):Str:=if(aap name).2=0 then(aap name).1 else name
theorem named_eq(s:Str)(hs:s.length<=4194303):aca FU s=some ((aap s).2,(aap s).1):=by
 unfold aca;rw [canon_eq s (by omega),zaa]
theorem named1_eq(h:HH)(c:UInt8)(s:Str)(hs:h.1.length<=4194303):acq FU h c s=some (pN c s h):=by
 unfold acq pN;rw [canon_eq h.1 (by omega),zaa];by_cases h1:c=0
 ·rw [if_pos h1,decide_eq_true h1,Bool.true_and];by_cases h2:(aap h.1).2=0
  ·rw [if_pos h2,decide_eq_true h2,Bool.true_and,zaa]
  ·rw [if_neg h2,decide_eq_false h2,Bool.false_and,zaa]
 ·rw [if_neg h1,decide_eq_false h1,Bool.false_and,Bool.false_and,zaa]
theorem full_eq(s:Str)(hs:s.length<=4194303):afj FU s=some (fullP s):=by
 unfold afj fullP;rw [canon_eq s (by omega),zaa];by_cases h:(aap s).2=0
 ·rw [if_pos h,if_pos h]
 ·rw [if_neg h,if_neg h]
def ixP(p:HH->Bool):List HH->Int
 |[]=> -1
 |h::l=>if p h=true then 0 else if ixP p l= -1 then-1 else ixP p l+1
theorem ixP_ge(p:HH->Bool):∀l,-1<=ixP p l
 |[]=>Int.le_refl _
 |h::l=>by have:=ixP_ge p l;unfold ixP;split<;>(try split)<;>omega
theorem ixP_lt(p:HH->Bool):∀l,ixP p l<(l.length:Int)
 |[]=>by unfold ixP;simp
 |h::l=>by have:=ixP_lt p l;rw [zaf];unfold ixP;split<;>(try split)<;>omega
theorem ixP_none(p:HH->Bool):∀l,ixP p l= -1->∀h∈l,p h=false
 |[],_,h,hm=>by cases hm
 |a::l,hi,h,hm=>by
  have hg:=ixP_ge p l;unfold ixP at hi;by_cases ha:p a=true
  ·rw [if_pos ha]at hi;omega
  ·rw [if_neg ha]at hi;by_cases h1:ixP p l= -1
   ·rcases List.mem_cons.1 hm with rfl|hm
    ·simpa using ha
    ·exact ixP_none p l h1 h hm
   ·rw [if_neg h1]at hi;omega
theorem aiy(p:HH->Bool):∀l,ixP p l≠-1->∃a x b,l=a++x::b/\(∀h∈a,p h=false)/\p x=true/\ixP p l=(a.length:Int)
 |[],h=>absurd rfl h
 |c::l,h=>by
  by_cases hc:p c=true
  ·exact⟨[],c,l,rfl,fun h hm=>(zbf hm).elim,hc,(show(if p c=true then(0:Int)else _)=_ from if_pos hc)⟩
  ·by_cases h1:ixP p l= -1
   ·exfalso;apply h;unfold ixP;rw [if_neg hc,if_pos h1]
   ·obtain⟨a,x,b,e1,e2,e3,e4⟩:=aiy p l h1;refine⟨c::a,x,b,by rw [e1];rfl,fun h hm=> ?_,e3, ?_⟩
    ·rcases List.mem_cons.1 hm with rfl|hm
     ·simpa using hc
     ·exact e2 h hm
    ·unfold ixP;rw [if_neg hc,if_neg h1,e4,zaf];omega
theorem index_lp(c:UInt8)(s:Str)(l:List HH)(hl:Sm l)(q:List HH):∀(p:List HH) (fk:Nat),l=p++q->q.length<fk->
  aai FU l c s fk (p.length:Int)=some (if ixP (pN c s) q= -1 then .inl ()else .inr ((p.length:Int)+ixP (pN c s) q)):=by
 induction q with
 |nil=>
  intro p fk h hf;obtain⟨fk,rfl⟩:=fkx fk;rw [zaS]at h;rw [abf,aam,if_neg (by rw [h];omega)];rfl
 |cons a q ih=>
  intro p fk h hf;obtain⟨fk,rfl⟩:=fkx fk;have hll:=congrArg List.length h;simp only [zae,zaf]at hll hf;have hln:=hl.1;have hb:(0:Int)<=(p.length:Int)/\(p.length:Int)<(l.length:Int):=by omega
  have he:el l (p.length:Int)=a:=by rw [h];simp [el]
  have ha:=(hl.2 a (by rw [h];simp)).1;rw [abf,aam,if_pos hb.2,aaf hb,aaf hb,he,named1_eq a c s ha,zaa,ixP];by_cases h0:pN c s a=true
  ·rw [h0,if_pos rfl,if_neg (by decide)];simp
  ·rw [if_neg h0,show pN c s a=false by simpa using h0,aaf (aht _ (by omega) (by omega))]
   have:=ih (p++[a]) fk (by rw [h];simp) (by omega)
   rw [show((p.length:Int)+1)=((p++[a]).length:Int)by simp];rw [cond_false,this];have hg:=ixP_ge (pN c s) q;by_cases h1:ixP (pN c s) q= -1
   ·rw [if_pos h1,if_pos h1,if_pos rfl]
   ·rw [if_neg h1,if_neg h1,if_neg (by omega),zae,zaw];congr 2
    omega
theorem index_eq(c:UInt8)(s:Str)(l:List HH)(hl:Sm l):aae FU l c s=some (ixP (pN c s) l):=by
 unfold aae
 have:=index_lp c s l hl l [] FU rfl (by have:=hl.1;rw [FU_eq];omega)
 have this':aai FU l c s FU (0:Int)=_:=this;rw [this',zaa];by_cases h:ixP (pN c s) l= -1
 ·rw [if_pos h,zaZ,h]
 ·rw [if_neg h,Sum.elim_inr];simp
theorem copied_eq(m:MM)(h1:m.2.2.2.2.1.length<=4194304)(h2:m.2.2.2.2.2.length<=4194304):adb FU m=some m:=by
 unfold adb;have hg:(0:Int)<=(m.2.2.2.2.1.length:Int)/\(32:Int)*(m.2.2.2.2.1.length:Int)<=281474976710656:=by omega
 have e:= @aaf MM (0<=(m.2.2.2.2.1.length:Int)/\(32:Int)*(m.2.2.2.2.1.length:Int)<=281474976710656) (dMk 32 (m.2.2.2.2.1.length:Int)) (gd ((0+m.2.2.2.2.2.length)*1<=140737488355328)<|some (m.1,m.2.1,m.2.2.1,m.2.2.2.1,cpy (zag (zah (m.2.2.2.2.1.length:Int)) (([]:Str),([]:Str))) m.2.2.2.2.1,m.2.2.2.2.2)) hg;refine Eq.trans e ?_;rw [aaf (by omega),cpy_full _ _ (by simp)]
theorem drop_lp(c:UInt8)(s:Str)(q:List HH):∀(l:List HH) (i j fk:Nat),Sm l->l.drop j=q->j<=l.length->i<=j->q.length<fk->
  ∃(l':List HH) (i':Nat),aag FU c s fk l (i:Int) (j:Int)=some (l',(i':Int))/\i'<=l'.length/\l'.take i'=l.take i++q.filter (fun h=> !pN c s h):=by
 induction q with
 |nil=>
  intro l i j fk hl hd hj hij hf;obtain⟨fk,rfl⟩:=fkx fk;have hjl:j=l.length:=by have:=congrArg List.length hd;simp at this;omega
  rw [abc,aal,if_neg (by omega)];exact⟨l,i,rfl,by omega,by simp⟩
 |cons a q ih=>
  intro l i j fk hl hd hj hij hf;obtain⟨fk,rfl⟩:=fkx fk;have hjl:j<l.length:=by have:=congrArg List.length hd;simp at this;omega
  have hln:=hl.1;have hb:(0:Int)<=(j:Int)/\(j:Int)<(l.length:Int):=by omega
  have hb2:(0:Int)<=(i:Int)/\(i:Int)<(l.length:Int):=by omega
  have hj1:l[j]=a:=by
   have:=List.drop_eq_getElem_cons hjl
   rw [hd]at this;exact(List.cons.inj this).1.symm
  have hd1:l.drop (j+1)=q:=by
   have:=List.drop_eq_getElem_cons hjl
   rw [hd]at this;exact(List.cons.inj this).2.symm
  have he:el l (j:Int)=a:=by rw [el_nat l j hjl,hj1]
  have ha:=(hl.2 a (by rw [<-hj1];exact List.getElem_mem hjl)).1;rw [abc,aal,if_pos hb.2,aaf hb,aaf hb,he,named1_eq a c s ha,zaa];rw [zaf]at hf;by_cases h0:pN c s a=true
  ·rw [h0,zbe,cond_false,aaf (aht _ (by omega) (by omega))];obtain⟨l',i',e1,e2,e3⟩:=ih l i (j+1) fk hl hd1 (by omega) (by omega) (by omega);refine⟨l',i',e1,e2, ?_⟩
   rw [e3,List.filter_cons_of_neg (by simp [h0])]
  ·have h0':pN c s a=false:=by simpa using h0
   rw [h0',Bool.not_false,cond_true,aaf hb2,aaf hb2,aaf (aht _ (by omega) (by omega)),aaf (aht _ (by omega) (by omega)),zaq];have hs:Sm (l.set i a):=by
    refine⟨by simpa using hl.1,fun h hm=> ?_⟩
    rcases List.mem_or_eq_of_mem_set hm with hm|rfl
    ·exact hl.2 h hm
    ·exact hl.2 _ (by rw [<-hj1];exact List.getElem_mem hjl)
   obtain⟨l',i',e1,e2,e3⟩:=ih (l.set i a) (i+1) (j+1) fk hs (by rw [List.drop_set_of_lt (by omega)];exact hd1) (by simp;omega) (by omega) (by omega);refine⟨l',i',e1,e2, ?_⟩
   rw [e3,List.filter_cons_of_pos (by simp [h0'])];have ht:(l.set i a).take (i+1)=l.take i++[a]:=by
    rw [List.take_succ_eq_append_getElem (by simp;omega),List.getElem_set_self,List.take_set_of_le (zab _)]
   rw [ht,zaC];rfl
theorem delF_eq(c:UInt8)(s:Str)(l:List HH)(hl:Sm l):aaq FU l c s=some (l.filter fun h=> !pN c s h):=by
 unfold aaq;rw [index_eq c s l hl,zaa];by_cases h:ixP (pN c s) l= -1
 ·rw [if_pos h];congr 1
  exact(List.filter_eq_self.2 fun a ha=>by rw [ixP_none _ l h a ha];rfl).symm
 ·rw [if_neg h];obtain⟨a,x,b,e1,e2,e3,e4⟩:=aiy _ l h;have hln:=hl.1;have hll:=congrArg List.length e1;simp only [zae,zaf]at hll;rw [e4,aaf (aht _ (by omega) (by omega))];obtain⟨l',i',f1,f2,f3⟩:=drop_lp c s b l a.length (a.length+1) FU hl (by rw [e1];simp) (by omega) (by omega) (by rw [FU_eq];omega);have f1':aag FU c s FU l (a.length:Int) ((a.length:Int)+1)=some (l',(i':Int)):=f1;rw [f1',zaa];dsimp only;rw [aaf (by omega),aaf (by rw [clr_len];omega),zaq,clr_take _ _ _ f2,f3,e1];congr 1
  rw [zbn,List.filter_cons_of_neg (by simp [e3]),zaW,(List.filter_eq_self.2 fun h hm=>by rw [e2 h hm];rfl:a.filter (fun h=> !pN c s h)=a)]
theorem mdrop_eq(m:MM)(name:Str)(hl:Sm m.2.2.2.2.1)(hb:m.2.2.2.2.2.length<=4194304)(hn:name.length<=4194303):
  afk FU m name=some (m.1,m.2.1,m.2.2.1,m.2.2.2.1,m.2.2.2.2.1.filter (fun h=> !nmP name h),m.2.2.2.2.2):=by
 unfold afk;rw [copied_eq m hl.1 hb,zaa,named_eq name hn,zaa,delF_eq _ _ _ hl,zaa];rfl
def setI(l:List HH)(name:Str):Int:=if ixP (nmP name) l<0 then((l.filter fun h=> !nmP name h).length:Int)else ixP (nmP name) l
theorem mset_eq(m:MM)(name value:Str)(hl:Sm m.2.2.2.2.1)(hb:m.2.2.2.2.2.length<=4194304)(hn:name.length<=4194303):
  ahm FU m name value=some (m.1,m.2.1,m.2.2.1,m.2.2.2.1,aig (m.2.2.2.2.1.filter (fun h=> !nmP name h)) (setI m.2.2.2.2.1 name) (fullP name,value),m.2.2.2.2.2):=by
 unfold ahm;have hg:=ixP_ge (nmP name) m.2.2.2.2.1;have hlt:=ixP_lt (nmP name) m.2.2.2.2.1;have hfl:(m.2.2.2.2.1.filter fun h=> !nmP name h).length<=m.2.2.2.2.1.length:=List.length_filter_le _ _;have hln:=hl.1;have hi:ixP (nmP name) m.2.2.2.2.1= -1\/ixP (nmP name) m.2.2.2.2.1<=((m.2.2.2.2.1.filter fun h=> !nmP name h).length:Int):=by
  by_cases h:ixP (nmP name) m.2.2.2.2.1= -1
  ·exact .inl h
  ·obtain⟨a,x,b,e1,e2,e3,e4⟩:=aiy _ _ h;right
   rw [e4,e1,zbn,List.filter_eq_self.2 (fun h hm=>by rw [e2 h hm];rfl),zae];omega
 rw [named_eq name hn,zaa,index_eq _ _ _ hl,zaa,mdrop_eq m name hl hb hn,zaa,full_eq name hn];have e0:pN (aap name).2 (aap name).1=nmP name:=rfl;dsimp only;rw [e0];unfold setI;by_cases h:ixP (nmP name) m.2.2.2.2.1<0
 ·rw [if_pos h,if_pos h,zaa,zaa,aaf (by omega)]
 ·rw [if_neg h,if_neg h,zaa,zaa,aaf (by omega)]
theorem mpush_eq(m:MM)(name value:Str)(hl:Sm m.2.2.2.2.1)(hb:m.2.2.2.2.2.length<=4194304)(hn:name.length<=4194303):
  agl FU m name value=some (m.1,m.2.1,m.2.2.1,m.2.2.2.1,aig m.2.2.2.2.1 (max (ixP (nmP name) m.2.2.2.2.1) 0) (fullP name,value),m.2.2.2.2.2):=by
 unfold agl;have hg:=ixP_ge (nmP name) m.2.2.2.2.1;have hlt:=ixP_lt (nmP name) m.2.2.2.2.1;have hln:=hl.1;rw [named_eq name hn,zaa,index_eq _ _ _ hl,zaa,copied_eq m hl.1 hb,zaa,full_eq name hn,zaa];have e0:pN (aap name).2 (aap name).1=nmP name:=rfl;dsimp only;rw [e0,aaf (by omega)]
def afs(v:Str):List Str:=if(lstP v).2=0 then(lstP v).1 else [v]
theorem elem_eq(v:Str)(hv:v.length<=4194303):acw FU v=some (afs v):=by
 unfold acw afs;rw [list_eq2 v hv,zaa];by_cases h:(lstP v).2=0
 ·rw [if_pos h,if_pos h]
 ·rw [if_neg h,if_neg h]
theorem mget_eq(m:MM)(name:Str)(hl:Sm m.2.2.2.2.1)(hn:name.length<=4194303):
  adj FU m name=some (if ixP (nmP name) m.2.2.2.2.1<0 then([],false)else((el m.2.2.2.2.1 (ixP (nmP name) m.2.2.2.2.1)).2,true)):=by
 unfold adj;have hlt:=ixP_lt (nmP name) m.2.2.2.2.1;rw [named_eq name hn,zaa,index_eq _ _ _ hl,zaa];have e0:pN (aap name).2 (aap name).1=nmP name:=rfl;dsimp only;rw [e0];by_cases h:ixP (nmP name) m.2.2.2.2.1<0
 ·rw [if_pos h,if_pos h]
 ·rw [if_neg h,if_neg h,aaf (by omega),aaf (by omega)]
open Go.Lib renaming join -> zaD
open List renaming append_assoc -> zaC, append_nil -> zaS, drop -> zaE, flatMap_cons -> zar, length_append -> zae, length_cons -> zaf, length_nil -> zbd, length_singleton -> zaw, map_cons -> zao, nil_append -> zaM
open Nat renaming le_refl -> zab, succ_mul -> zaV
theorem trim_len3(x:Str):(aic x).length<=x.length:=by
 unfold aic rdw;rw [List.length_reverse];have h1:=(List.dropWhile_suffix (p:=adq) (l:=(x.dropWhile adq).reverse)).length_le;have h2:=(List.dropWhile_suffix (p:=adq) (l:=x)).length_le;rw [List.length_reverse]at h1;omega
def szL(l:List Str):Nat:=(l.map List.length).sum+l.length
theorem sp_len:∀(s:Str) (m:Nat) (cur:Str) (l:List Str),spS m cur s=.inl l->szL l<=cur.length+s.length+1
 |[],0,cur,l,h=>by
  rw [spS]at h
  have:=Sum.inl.inj h
  subst this
  have:=trim_len3 cur
  simp [szL];omega
 |[],m+1,cur,l,h=>by cases h
 |c::s,0,cur,l,h=>by
  rw [spS]at h;split at h
  ·have:=sp_len s _ _ l h;simp at this⊢;omega
  ·split at h
   ·have:=sp_len s _ _ l h;simp at this⊢;omega
   ·split at h
    ·cases h
    ·split at h
     ·obtain⟨m,h1,rfl⟩:=consE_inl h
      have:=sp_len s _ _ m h1
      have:=trim_len3 cur
      simp [szL]at*;omega
     ·have:=sp_len s _ _ l h;simp at this⊢;omega
 |c::s,1,cur,l,h=>by
  rw [spS]at h;split at h
  ·have:=sp_len s _ _ l h;simp at this⊢;omega
  ·split at h
   ·have:=sp_len s _ _ l h;simp at this⊢;omega
   ·split at h
    ·cases h
    ·have:=sp_len s _ _ l h;simp at this⊢;omega
 |c::s,2,cur,l,h=>by
  rw [spS]at h;split at h
  ·have:=sp_len s _ _ l h;simp at this⊢;omega
  ·cases h
 |c::s,m+3,cur,l,h=>by
  rw [spS]at h;split at h
  ·have:=sp_len s _ _ l h;simp at this⊢;omega
  ·have:=sp_len s _ _ l h;simp at this⊢;omega
theorem lst_len(v:Str)(h:(lstP v).2=0):szL (lstP v).1<=v.length+1:=by
 unfold lstP at h⊢;cases hs:spS 0 [] v with
 |inr e=>
  rw [hs]at h;simp only at h;exact absurd h (sp_err v 0 [] e hs)
 |inl l=>
  rw [hs]at h;simp only at h⊢;by_cases ha:l.any (fun x=>decide (x=[]))=true
  ·rw [if_pos ha]at h;exact absurd h (show¬(5:UInt8)=0 by decide)
  ·rw [if_neg ha];simpa using sp_len v 0 [] l hs
theorem elemP_len(v:Str):szL (afs v)<=v.length+1:=by
 unfold afs;split
 ·exact lst_len v (by assumption)
 ·simp [szL]
theorem join_len3(s:Str):∀l:List Str,(zaD l s).length<=(l.map List.length).sum+l.length*s.length
 |[]=>by simp [zaD,List.intercalate]
 |[a]=>by simp [zaD,List.intercalate]
 |a::b::l=>by
  have h:zaD (a::b::l) s=a++(s++zaD (b::l) s):=by simp [zaD,List.intercalate,List.intersperse]
  have:=join_len3 s (b::l)
  rw [h];simp only [zae,zao,List.sum_cons,zaf,zaV]at this⊢;omega
theorem szL_drop(l:List Str):szL (l.drop 1)<=szL l:=by
 cases l with
 |nil=>exact zab _
 |cons a l=>simp [szL];omega
def mnyQ(name:Str):Bool:=if(aap name).2=0 then manyP (aap name).1 else false
def dfP(l:List HH)(name:Str):List HH:=
 if ixP (nmP name) l<0 then l
 else if mnyQ name=true/\1<(afs (el l (ixP (nmP name) l)).2).length then l.set (ixP (nmP name) l).toNat ((el l (ixP (nmP name) l)).1,zaD ((afs (el l (ixP (nmP name) l)).2).drop 1) [44,32])
 else delL l (ixP (nmP name) l) (ixP (nmP name) l+1)
theorem mdf_eq(m:MM)(name:Str)(hl:Sm m.2.2.2.2.1)(hb:m.2.2.2.2.2.length<=4194304)(hn:name.length<=4194303):
  adr FU m name=some (m.1,m.2.1,m.2.2.1,m.2.2.2.1,dfP m.2.2.2.2.1 name,m.2.2.2.2.2):=by
 unfold adr dfP;have hg:=ixP_ge (nmP name) m.2.2.2.2.1;have hlt:=ixP_lt (nmP name) m.2.2.2.2.1;have hln:=hl.1;rw [copied_eq m hl.1 hb,zaa,named_eq name hn,zaa,index_eq _ _ _ hl,zaa];have e0:pN (aap name).2 (aap name).1=nmP name:=rfl;dsimp only;rw [e0];by_cases h:ixP (nmP name) m.2.2.2.2.1<0
 ·rw [if_pos h,if_pos h]
 ·rw [if_neg h,if_neg h,manyLaw_eq name (by omega),zaa];have hq:(if(aap name).2=0 then manyP (aap name).1 else false)=mnyQ name:=rfl;rw [hq];have hm:el m.2.2.2.2.1 (ixP (nmP name) m.2.2.2.2.1)∈m.2.2.2.2.1:=by
   obtain⟨k,hk⟩:=Int.eq_ofNat_of_zero_le (a:=ixP (nmP name) m.2.2.2.2.1) (by omega);rw [hk];exact el_mem' _ k (by omega)
  generalize ixP (nmP name) m.2.2.2.2.1=i at*;have hv:=(hl.2 _ hm).2;have hdel:(gd (afr (i+(1:Int)))<|(gd (0<=i/\i<=(i+(1:Int))/\(i+(1:Int))<=(m.2.2.2.2.1.length:Int))<|some (m.1,m.2.1,m.2.2.1,m.2.2.2.1,delL m.2.2.2.2.1 i (i+(1:Int)),m.2.2.2.2.2)))=some (m.1,m.2.1,m.2.2.1,m.2.2.2.1,delL m.2.2.2.2.1 i (i+(1:Int)),m.2.2.2.2.2):=by
   rw [aaf (aht _ (by omega) (by omega)),aaf (by omega)]
  cases hy:mnyQ name with
  |false=>
   rw [cond_false,zaa,zaZ,hdel,if_neg (fun h=>Bool.false_ne_true h.1)]
  |true=>
   have hz:=elemP_len (el m.2.2.2.2.1 i).2;have hz2:=szL_drop (afs (el m.2.2.2.2.1 i).2);have hj:=join_len3 [44,32] ((afs (el m.2.2.2.2.1 i).2).drop 1);rw [cond_true,aaf (by omega),aaf (by omega),elem_eq _ hv,zaa];by_cases h1:1<(afs (el m.2.2.2.2.1 i).2).length
   ·have hJ:(zaE (zah (1:Int)) (afs (el m.2.2.2.2.1 i).2)).length<=1000000000/\(zaD (zaE (zah (1:Int)) (afs (el m.2.2.2.2.1 i).2)) ([44,32]:Str)).length<=100000000000:=by
     show((afs (el m.2.2.2.2.1 i).2).drop 1).length<=1000000000/\(zaD ((afs (el m.2.2.2.2.1 i).2).drop 1) ([44,32]:Str)).length<=100000000000
     unfold szL at hz hz2;simp only [zaf,zbd]at hj;exact⟨by omega,by omega⟩
    rw [if_pos (by omega),aaf (by omega),aaf hJ,aaf (by omega),aaf (by omega),zaa,Sum.elim_inr,if_pos ⟨rfl,h1⟩];rfl
   ·rw [if_neg (by omega),zaa,zaZ,hdel,if_neg (fun h=>h1 h.2)]
def vlsP(name:Str)(h:HH):List Str:=if nmP name h=true then(if mnyQ name=true then afs h.2 else [h.2])else []
def allP(l:List HH)(name:Str):List Str:=l.flatMap (vlsP name)
theorem vls_len(name:Str)(h:HH):szL (vlsP name h)<=h.2.length+1:=by
 unfold vlsP;split
 ·split
  ·exact elemP_len _
  ·simp [szL]
 ·simp [szL]
theorem all_lp(m:MM)(name:Str)(hl:Sm m.2.2.2.2.1)(y:Bool)(hy:y=mnyQ name)(hz:hsz m.2.2.2.2.1<=4194303)(q:List HH):∀(p:List HH) (fk:Nat) (acc:List Str),m.2.2.2.2.1=p++q->q.length<fk->acc.length+hsz q+q.length<=100000000->
  acr FU m ((aap name).2,(aap name).1) y fk acc (p.length:Int)=some (acc++q.flatMap (vlsP name)):=by
 subst hy;induction q with
 |nil=>
  intro p fk acc h hf ha;obtain⟨fk,rfl⟩:=fkx fk;rw [zaS]at h;rw [ags,aed,if_neg (by rw [h];omega)];simp
 |cons a q ih=>
  intro p fk acc h hf ha;obtain⟨fk,rfl⟩:=fkx fk;have hll:=congrArg List.length h;simp only [zae,zaf]at hll hf;have hln:=hl.1;have hb:(0:Int)<=(p.length:Int)/\(p.length:Int)<(m.2.2.2.2.1.length:Int):=by omega
  have he:el m.2.2.2.2.1 (p.length:Int)=a:=by rw [h];simp [el]
  have hsa:=hl.2 a (by rw [h];simp);have hq:hsz (a::q)=a.1.length+a.2.length+hsz q:=by unfold hsz;rw [zao,List.sum_cons]
  rw [hq,zaf]at ha;have hv:=vls_len name a;have hvl:(vlsP name a).length<=a.2.length+1:=by unfold szL at hv;omega
  have e0:pN (aap name).2 (aap name).1 a=nmP name a:=rfl;have nx:∀acc',acc'=acc++vlsP name a->(gd (afr ((p.length:Int)+(1:Int)))<|acr FU m ((aap name).2,(aap name).1) (mnyQ name) fk acc' ((p.length:Int)+1))=some (acc++(a::q).flatMap (vlsP name)):=by
   intro acc' e
   have:=ih (p++[a]) fk acc' (by rw [h];simp) (by omega) (by rw [e,zae];omega)
   rw [aaf (aht _ (by omega) (by omega)),show((p.length:Int)+1)=((p++[a]).length:Int)by simp,this,e,zar,zaC]
  rw [ags,aed,if_pos hb.2,aaf hb,aaf hb,he,named1_eq a _ _ hsa.1,zaa,e0];by_cases h0:nmP name a=true
  ·rw [h0,zbe,cond_false];cases hy:mnyQ name with
   |true=>
    have e1:vlsP name a=afs a.2:=by unfold vlsP;rw [if_pos h0,if_pos hy]
    rw [hy]at nx;rw [e1]at hvl;rw [cond_true,elem_eq _ hsa.2,zaa,aaf (by omega)];exact nx _ (by rw [e1])
   |false=>
    have e1:vlsP name a=[a.2]:=by unfold vlsP;rw [if_pos h0,if_neg (by rw [hy];decide)]
    rw [hy]at nx;rw [cond_false,aaf (by rw [zaw];omega)];exact nx _ (by rw [e1])
  ·have h0':nmP name a=false:=by simpa using h0
   rw [h0',Bool.not_false,cond_true];exact nx acc (by unfold vlsP;rw [if_neg h0,zaS])
theorem all_eq(m:MM)(name:Str)(hl:Sm m.2.2.2.2.1)(hz:hsz m.2.2.2.2.1<=4194303)(hn:name.length<=4194303):aee FU m name=some (allP m.2.2.2.2.1 name):=by
 unfold aee allP;have hln:=hl.1
 have:=all_lp m name hl (mnyQ name) rfl hz m.2.2.2.2.1 [] FU [] rfl (by rw [FU_eq];omega) (by simp;omega)
 have this':acr FU m ((aap name).2,(aap name).1) (mnyQ name) FU [] (0:Int)=_:=this;rw [named_eq name hn,zaa,manyLaw_eq name (by omega),zaa];have hq:(if(aap name).2=0 then manyP (aap name).1 else false)=mnyQ name:=rfl;rw [hq,this',zaa,zaM]
open List renaming append_nil -> zaS, length_append -> zae, length_cons -> zaf
theorem is_eq(h:HH)(name:Str)(hh:h.1.length<=4194303)(hn:name.length<=4194303):ajk FU h.1 name=some (nmP name h):=by
 unfold ajk nmP pN;rw [refCanon_eq h.1 (by omega),zaa,refCanon_eq name (by omega),zaa];by_cases h1:(aap name).2=0
 ·by_cases h2:(aap h.1).2=0
  ·rw [if_pos h2,if_pos h1,decide_eq_true h1,decide_eq_true h2,Bool.true_and,Bool.true_and,zaa]
  ·rw [if_neg h2,decide_eq_false h2,Bool.and_false,Bool.false_and,zaa]
 ·rw [decide_eq_false h1,Bool.false_and,Bool.false_and];by_cases h2:(aap h.1).2=0
  ·rw [if_pos h2,if_neg h1,zaa]
  ·rw [if_neg h2,zaa]
theorem same_lp(a:MM)(ha:a.2.2.2.2.1.length<=4194304)(q:List HH):∀(p:List HH) (fk:Nat),a.2.2.2.2.1=p++q->q.length<fk->ady FU a a fk (p.length:Int)=some (.inl ()):=by
 induction q with
 |nil=>
  intro p fk h hf;obtain⟨fk,rfl⟩:=fkx fk;rw [zaS]at h;rw [ahh,aer,if_neg (by rw [h];omega)]
 |cons x q ih=>
  intro p fk h hf;obtain⟨fk,rfl⟩:=fkx fk;have hll:=congrArg List.length h;simp only [zae,zaf]at hll hf;have hb:(0:Int)<=(p.length:Int)/\(p.length:Int)<(a.2.2.2.2.1.length:Int):=by omega
  rw [ahh,aer,if_pos hb.2,aaf hb,aaf hb,aaf hb,aaf hb,if_pos rfl,aaf (aht _ (by omega) (by omega)),show((p.length:Int)+1)=((p++[x]).length:Int)by simp];exact ih (p++[x]) fk (by rw [h];simp) (by omega)
theorem same_eq(a:MM)(ha:a.2.2.2.2.1.length<=4194304):abx FU a a=some true:=by
 unfold abx
 have:=same_lp a ha a.2.2.2.2.1 [] FU rfl (by rw [FU_eq];omega)
 have this':ady FU a a FU (0:Int)=_:=this;rw [if_pos rfl,if_pos rfl,if_pos rfl,if_pos rfl,if_pos rfl,decide_eq_true rfl,zbe,zaa,cond_false,this',zaa,zaZ]
open List renaming length_cons -> zaf, map_cons -> zao, mem_cons_of_mem -> zat, mem_cons_self -> zav
theorem canonP_long:∀c:UInt8,longN c≠[]->aap (longN c)=(longN c,0):=acs _ (by decide+kernel)
theorem canonP_special:∀n∈ada,aap n=(n,0):=by decide+kernel
theorem specialO_inr(y:Str):∀(l:List Str) {q},specialO l y=some (.inr q)->q.1∈l/\q.2=0
 |[],q,h=>by cases h
 |n::l,q,h=>by
  unfold specialO at h;split at h
  ·cases h;exact⟨zav,rfl⟩
  ·have:=specialO_inr y l h
   exact⟨zat _ this.1,this.2⟩
theorem tok_up:∀c:UInt8,aey (agk c)=aey c:=acs _ (by decide+kernel)
theorem tok_low:∀c:UInt8,aey (abi c)=aey c:=acs _ (by decide+kernel)
theorem upper45:∀c:UInt8,(agk c==45)=(c==45):=acs _ (by decide+kernel)
theorem upup:∀c:UInt8,agk (agk c)=agk c:=acs _ (by decide+kernel)
theorem lowlow:∀c:UInt8,abi (abi c)=abi c:=acs _ (by decide+kernel)
theorem lowup:∀c:UInt8,abi (agk c)=abi c:=acs _ (by decide+kernel)
theorem title_len:∀(l:Str) (f:Bool),(ago f l).length=l.length
 |[],_=>rfl
 |c::l,f=>by rw [ago,zaf,zaf,title_len l]
theorem title_all:∀(l:Str) (f:Bool),(ago f l).all aey=l.all aey
 |[],_=>rfl
 |c::l,f=>by
  rw [ago,List.all_cons,List.all_cons,title_all l];cases f
  ·rw [if_neg (by decide),tok_low]
  ·rw [if_pos rfl,tok_up]
theorem title_lower:∀(l:Str) (f:Bool),ahe (ago f l)=ahe l
 |[],_=>rfl
 |c::l,f=>by
  have:=title_lower l (c==45)
  simp only [ahe]at this⊢;rw [ago,zao,zao,this];cases f
  ·rw [if_neg (by decide),lowlow]
  ·rw [if_pos rfl,lowup]
theorem title_title:∀(l:Str) (f:Bool),ago f (ago f l)=ago f l
 |[],_=>rfl
 |c::l,f=>by
  have:=title_title l (c==45)
  cases f
  ·simp only [ago,if_neg (show¬(false=true)by decide),lowlow,low45,this]
  ·simp only [ago,if_true,upup,upper45,this]
theorem isTok_title(l:Str)(f:Bool):isTok (ago f l)=isTok l:=by
 unfold isTok;rw [title_all];cases l<;>rfl
theorem canonP_canon(s:Str)(h:(aap s).2=0):aap (aap s).1=((aap s).1,0):=by
 by_cases h0:isTok s=false\/64<s.length
 ·have e:aap s=([],5):=by unfold aap;rw [if_pos h0]
  rw [e]at h;exact absurd h (by decide)
 ·by_cases h1:s.length=1/\longN (abi (at_ s 0))≠[]
  ·have e:aap s=(longN (abi (at_ s 0)),0):=by unfold aap;rw [if_neg h0,if_pos h1]
   rw [e];exact canonP_long _ h1.2
  ·have e:aap s=((abv FU (ahe s) FU 0).getD (.inl ())).elim (fun _=>(ago true s,0)) id:=by unfold aap;rw [if_neg h0,if_neg h1]
   obtain⟨r,hr⟩:=ajr (ahe s) ada;rw [special_list,hr,Option.getD_some]at e;cases r with
   |inr q=>
    have hq:=specialO_inr _ _ hr;have e':aap s=q:=e;rw [e',canonP_special q.1 hq.1]
   |inl u=>
    have e':aap s=(ago true s,0):=e;rw [e'];have g0:¬(isTok (ago true s)=false\/64<(ago true s).length):=by rw [isTok_title,title_len];exact h0
    have g1:¬((ago true s).length=1/\longN (abi (at_ (ago true s) 0))≠[]):=by
     rintro⟨a,b⟩
     rw [title_len]at a
     match s,a with
     |[c],_=>exact h1 ⟨rfl,fun x=>b (by show longN (abi (agk c))=[];rw [lowup];exact x)⟩
    unfold aap;rw [if_neg g0,if_neg g1,title_lower,title_title,special_list,hr];rfl
open Int renaming toNat_natCast -> zaq
open List renaming append_nil -> zaS, cons_append -> zaz, drop_of_length_le -> zba, filter_append -> zbn, filter_cons -> zaH, flatMap_append -> zaF, flatMap_cons -> zar, length_cons -> zaf, length_singleton -> zaw, mem_cons_of_mem -> zat, mem_cons_self -> zav, nil_append -> zaM, take_left -> zaW
def agf:Nat->Str->Option Nat
 |m,[]=>some m
 |0,c::l=>if c=34 then agf 1 l else if c=60 then agf 3 l else if c=62 then none else if c=44 then none else agf 0 l
 |1,c::l=>if c=34 then agf 0 l else if c=92 then agf 2 l else if aib c=true then none else agf 1 l
 |2,c::l=>if aim c=true then agf 1 l else none
 |_+3,c::l=>if c=62 then agf 0 l else agf 3 l
theorem aez:∀(a b:Str) (m k:Nat),agf m a=some k->agf m (a++b)=agf k b
 |[],b,m,k,h=>by rw [show m=k by simpa [agf] using h];rfl
 |c::a,b,0,k,h=>by
  rw [agf]at h;rw [zaz,agf];split at h
  ·rw [if_pos (by assumption)];exact aez a b _ k h
  ·rw [if_neg (by assumption)];split at h
   ·rw [if_pos (by assumption)];exact aez a b _ k h
   ·rw [if_neg (by assumption)];split at h
    ·cases h
    ·rw [if_neg (by assumption)];split at h
     ·cases h
     ·rw [if_neg (by assumption)];exact aez a b _ k h
 |c::a,b,1,k,h=>by
  rw [agf]at h;rw [zaz,agf];split at h
  ·rw [if_pos (by assumption)];exact aez a b _ k h
  ·rw [if_neg (by assumption)];split at h
   ·rw [if_pos (by assumption)];exact aez a b _ k h
   ·rw [if_neg (by assumption)];split at h
    ·cases h
    ·rw [if_neg (by assumption)];exact aez a b _ k h
 |c::a,b,2,k,h=>by
  rw [agf]at h;rw [zaz,agf];split at h
  ·rw [if_pos (by assumption)];exact aez a b _ k h
  ·cases h
 |c::a,b,m+3,k,h=>by
  rw [agf]at h;rw [zaz,agf];split at h
  ·rw [if_pos (by assumption)];exact aez a b _ k h
  ·rw [if_neg (by assumption)];exact aez a b _ k h
theorem sp_run:∀(a:Str) (m k:Nat) (cur rest:Str),agf m a=some k->spS m cur (a++rest)=spS k (cur++a) rest
 |[],m,k,cur,rest,h=>by rw [show m=k by simpa [agf] using h,zaS];rfl
 |c::a,0,k,cur,rest,h=>by
  have e:cur++c::a=(cur++[c])++a:=by simp
  rw [agf]at h;rw [zaz,s0c,e];split at h
  ·rw [if_pos (by assumption)];exact sp_run a _ k _ rest h
  ·rw [if_neg (by assumption)];split at h
   ·rw [if_pos (by assumption)];exact sp_run a _ k _ rest h
   ·rw [if_neg (by assumption)];split at h
    ·cases h
    ·rw [if_neg (by assumption)];split at h
     ·cases h
     ·rw [if_neg (by assumption)];exact sp_run a _ k _ rest h
 |c::a,1,k,cur,rest,h=>by
  have e:cur++c::a=(cur++[c])++a:=by simp
  rw [agf]at h;rw [zaz,s1c,e];split at h
  ·rw [if_pos (by assumption)];exact sp_run a _ k _ rest h
  ·rw [if_neg (by assumption)];split at h
   ·rw [if_pos (by assumption)];exact sp_run a _ k _ rest h
   ·rw [if_neg (by assumption)];split at h
    ·cases h
    ·rw [if_neg (by assumption)];exact sp_run a _ k _ rest h
 |c::a,2,k,cur,rest,h=>by
  have e:cur++c::a=(cur++[c])++a:=by simp
  rw [agf]at h;rw [zaz,s2c,e];split at h
  ·rw [if_pos (by assumption)];exact sp_run a _ k _ rest h
  ·cases h
 |c::a,m+3,k,cur,rest,h=>by
  have e:cur++c::a=(cur++[c])++a:=by simp
  rw [agf]at h;rw [zaz,s3c,e];split at h
  ·rw [if_pos (by assumption)];exact sp_run a _ k _ rest h
  ·rw [if_neg (by assumption)];exact sp_run a _ k _ rest h
def Whole(e:Str):Prop:=agf 0 e=some 0
theorem blank_not:∀c:UInt8,adq c=true->c≠34/\c≠60/\c≠62/\c≠44/\c≠92:=acs _ (by decide+kernel)
theorem run_blank0:∀b:Str,b.all adq=true->agf 0 b=some 0
 |[],_=>rfl
 |c::b,h=>by
  rw [List.all_cons,zas]at h;obtain⟨h1,h2,h3,h4,_⟩:=blank_not c h.1;rw [agf,if_neg h1,if_neg h2,if_neg h3,if_neg h4];exact run_blank0 b h.2
theorem run_blank:∀(b:Str) (m:Nat),b.all adq=true->agf m b=some 0->m=0
 |[],m,_,h=>by simpa [agf] using h
 |c::b,0,_,_=>rfl
 |c::b,1,h,hr=>by
  rw [List.all_cons,zas]at h;obtain⟨h1,h2,h3,h4,h5⟩:=blank_not c h.1;rw [agf,if_neg h1,if_neg h5]at hr;split at hr
  ·cases hr
  ·exact absurd (run_blank b 1 h.2 hr) (by decide)
 |c::b,2,h,hr=>by
  rw [List.all_cons,zas]at h;rw [agf]at hr;split at hr
  ·exact absurd (run_blank b 1 h.2 hr) (by decide)
  ·cases hr
 |c::b,m+3,h,hr=>by
  rw [List.all_cons,zas]at h;obtain⟨h1,h2,h3,h4,h5⟩:=blank_not c h.1;rw [agf,if_neg h3]at hr;exact absurd (run_blank b 3 h.2 hr) (by decide)
theorem run_split(a b:Str)(m k:Nat)(h:agf m (a++b)=some k):∃j,agf m a=some j/\agf j b=some k:=by
 cases ha:agf m a with
 |some j=>rw [aez a b m j ha]at h;exact⟨j,rfl,h⟩
 |none=>
  exfalso;have go:∀(a:Str) (m:Nat),agf m a=none->agf m (a++b)=none:=by
   intro a;induction a with
   |nil=>intro m h;cases m<;>cases h
   |cons c a ih=>
    intro m h
    match m with
    |0=>
     rw [agf]at h;rw [zaz,agf];split at h
     ·rw [if_pos (by assumption)];exact ih _ h
     ·rw [if_neg (by assumption)];split at h
      ·rw [if_pos (by assumption)];exact ih _ h
      ·rw [if_neg (by assumption)];split at h
       ·rw [if_pos (by assumption)]
       ·rw [if_neg (by assumption)];split at h
        ·rw [if_pos (by assumption)]
        ·rw [if_neg (by assumption)];exact ih _ h
    |1=>
     rw [agf]at h;rw [zaz,agf];split at h
     ·rw [if_pos (by assumption)];exact ih _ h
     ·rw [if_neg (by assumption)];split at h
      ·rw [if_pos (by assumption)];exact ih _ h
      ·rw [if_neg (by assumption)];split at h
       ·rw [if_pos (by assumption)]
       ·rw [if_neg (by assumption)];exact ih _ h
    |2=>
     rw [agf]at h;rw [zaz,agf];split at h
     ·rw [if_pos (by assumption)];exact ih _ h
     ·rw [if_neg (by assumption)]
    |m+3=>
     rw [agf]at h;rw [zaz,agf];split at h
     ·rw [if_pos (by assumption)];exact ih _ h
     ·rw [if_neg (by assumption)];exact ih _ h
  rw [go a m ha]at h;cases h
theorem dw_parts(p:UInt8->Bool):∀l:Str,∃b,l=b++l.dropWhile p/\b.all p=true
 |[]=>⟨[],rfl,rfl⟩
 |c::l=>by
  by_cases hc:p c=true
  ·obtain⟨b,h1,h2⟩:=dw_parts p l;rw [List.dropWhile_cons_of_pos hc];exact⟨c::b,by rw [zaz,<-h1],by rw [List.all_cons,hc,h2];rfl⟩
  ·rw [List.dropWhile_cons_of_neg hc];exact⟨[],rfl,rfl⟩
theorem trim_parts(x:Str):∃a b,x=a++(aic x++b)/\a.all adq=true/\b.all adq=true:=by
 obtain⟨a,h1,h2⟩:=dw_parts adq x;obtain⟨b,h3,h4⟩:=dw_parts adq (x.dropWhile adq).reverse;refine⟨a,b.reverse, ?_,h2,by rw [List.all_reverse];exact h4⟩
 have:x.dropWhile adq=aic x++b.reverse:=by
  unfold aic rdw;rw [<-List.reverse_append,<-h3,List.reverse_reverse]
 rw [<-this];exact h1
theorem whole_trim(x:Str)(h:Whole x):Whole (aic x):=by
 obtain⟨a,b,h1,h2,h3⟩:=trim_parts x;unfold Whole at*;rw [h1,aez a _ 0 0 (run_blank0 a h2)]at h;obtain⟨j,h4,h5⟩:=run_split _ _ _ _ h;rw [run_blank b j h3 h5]at h4;exact h4
theorem ahb:∀(s:Str) (m:Nat) (cur:Str) (l:List Str),agf 0 cur=some m->spS m cur s=.inl l->∀x∈l,Whole x
 |[],0,cur,l,hc,h,x,hx=>by
  rw [s0n]at h
  have:=Sum.inl.inj h
  subst this;rw [List.mem_singleton.1 hx];exact whole_trim cur hc
 |[],m+1,cur,l,hc,h,x,hx=>by cases h
 |c::s,0,cur,l,hc,h,x,hx=>by
  have st:∀k,agf 0 [c]=some k->agf 0 (cur++[c])=some k:=fun k hk=>by rw [aez cur [c] 0 0 hc];exact hk
  rw [s0c]at h;split at h
  ·rename_i h1;exact ahb s 1 _ l (st 1 (by rw [agf,if_pos h1];rfl)) h x hx
  ·split at h
   ·rename_i h1 h2;exact ahb s 3 _ l (st 3 (by rw [agf,if_neg h1,if_pos h2];rfl)) h x hx
   ·split at h
    ·cases h
    ·split at h
     ·obtain⟨q,h1,rfl⟩:=consE_inl h;rcases List.mem_cons.1 hx with rfl|hx
      ·exact whole_trim cur hc
      ·exact ahb s 0 [] q rfl h1 x hx
     ·rename_i h1 h2 h3 h4;exact ahb s 0 _ l (st 0 (by rw [agf,if_neg h1,if_neg h2,if_neg h3,if_neg h4];rfl)) h x hx
 |c::s,1,cur,l,hc,h,x,hx=>by
  have st:∀k,agf 1 [c]=some k->agf 0 (cur++[c])=some k:=fun k hk=>by rw [aez cur [c] 0 1 hc];exact hk
  rw [s1c]at h;split at h
  ·rename_i h1;exact ahb s 0 _ l (st 0 (by rw [agf,if_pos h1];rfl)) h x hx
  ·split at h
   ·rename_i h1 h2;exact ahb s 2 _ l (st 2 (by rw [agf,if_neg h1,if_pos h2];rfl)) h x hx
   ·split at h
    ·cases h
    ·rename_i h1 h2 h3;exact ahb s 1 _ l (st 1 (by rw [agf,if_neg h1,if_neg h2,if_neg h3];rfl)) h x hx
 |c::s,2,cur,l,hc,h,x,hx=>by
  have st:∀k,agf 2 [c]=some k->agf 0 (cur++[c])=some k:=fun k hk=>by rw [aez cur [c] 0 2 hc];exact hk
  rw [s2c]at h;split at h
  ·rename_i h1;exact ahb s 1 _ l (st 1 (by rw [agf,if_pos h1];rfl)) h x hx
  ·cases h
 |c::s,m+3,cur,l,hc,h,x,hx=>by
  have st:∀k,agf (m+3) [c]=some k->agf 0 (cur++[c])=some k:=fun k hk=>by rw [aez cur [c] 0 (m+3) hc];exact hk
  rw [s3c]at h;split at h
  ·rename_i h1;exact ahb s 0 _ l (st 0 (by rw [agf,if_pos h1];rfl)) h x hx
  ·rename_i h1;exact ahb s 3 _ l (st 3 (by rw [agf,if_neg h1];rfl)) h x hx
theorem lst_whole(v:Str)(h:(lstP v).2=0):∀x∈(lstP v).1,Whole x:=by
 unfold lstP at h⊢;cases hs:spS 0 [] v with
 |inr e=>
  rw [hs]at h;simp only at h;exact absurd h (sp_err v 0 [] e hs)
 |inl l=>
  rw [hs]at h;simp only at h⊢;by_cases ha:l.any (fun x=>decide (x=[]))=true
  ·rw [if_pos ha]at h;exact absurd h (show¬(5:UInt8)=0 by decide)
  ·rw [if_neg ha];exact ahb v 0 [] l rfl hs
theorem sp_joinW:∀(es:List Str) (e cur:Str),(∀x,aic (cur++x)=aic x)->(∀x∈e::es,Whole x/\aic x=x)->spS 0 cur (zaD (e::es) [44,32])=.inl (e::es)
 |[],e,cur,hcur,h=>by
  obtain⟨h1,h2⟩:=h e zav;have hj:zaD [e] [44,32]=e++[]:=by rw [zaS];simp [zaD,List.intercalate]
  rw [hj,sp_run e 0 0 cur [] h1,s0n,hcur,h2]
 |d::es,e,cur,hcur,h=>by
  obtain⟨h1,h2⟩:=h e zav;have hj:zaD (e::d::es) [44,32]=e++(44::32::zaD (d::es) [44,32]):=by simp [zaD,List.intercalate,List.intersperse]
  have hsp:spS 0 [] (32::zaD (d::es) [44,32])=.inl (d::es):=by
   rw [s0c,if_neg (by decide),if_neg (by decide),if_neg (by decide),if_neg (by decide),zaM];exact sp_joinW es d [32] (fun x=>trim_pre [32] x rfl) (fun x hx=>h x (zat _ hx))
  rw [hj,sp_run e 0 0 cur _ h1,s0c,if_neg (by decide),if_neg (by decide),if_neg (by decide),if_pos rfl,hsp,hcur,h2];rfl
theorem join_backW(es:List Str)(hne:es≠[])(h:∀x∈es,Whole x/\aic x=x/\x≠[]):lstP (zaD es [44,32])=(es,0):=by
 cases es with
 |nil=>exact absurd rfl hne
 |cons e es=>
  unfold lstP;rw [sp_joinW es e [] (fun x=>rfl) (fun x hx=>⟨(h x hx).1,(h x hx).2.1⟩)];simp only;rw [if_neg];intro ha;rw [List.any_eq_true]at ha;obtain⟨x,hx,hd⟩:=ha;exact(h x hx).2.2 (of_decide_eq_true hd)
theorem elem_rest(v:Str)(h:1<(afs v).length):afs (zaD ((afs v).drop 1) [44,32])=(afs v).drop 1:=by
 have h0:(lstP v).2=0:=by
  by_cases h0:(lstP v).2=0
  ·exact h0
  ·unfold afs at h;rw [if_neg h0,zaw]at h;omega
 have he:afs v=(lstP v).1:=by unfold afs;rw [if_pos h0]
 have hw:=lst_whole v h0;obtain⟨_,hm⟩:=lstP_mem v h0;rw [he]at h⊢;have hb:=join_backW ((lstP v).1.drop 1) (fun e=>by have:=congrArg List.length e;simp at this;omega) (fun x hx=>⟨hw x (List.mem_of_mem_drop hx),(hm x (List.mem_of_mem_drop hx)).1,(hm x (List.mem_of_mem_drop hx)).2⟩);unfold afs;rw [hb,if_pos rfl]
theorem elem_ne(v:Str):afs v≠[]:=by
 unfold afs;split
 ·exact(lstP_mem v (by assumption)).1
 ·simp
theorem full_same(name value:Str)(h:(aap name).2=0):nmP name (fullP name,value)=true:=by
 unfold nmP pN fullP;rw [if_pos h]
 have:=canonP_canon name h
 simp only [this,h];simp
theorem bad_none(name:Str)(h:¬(aap name).2=0)(x:HH):nmP name x=false:=by
 unfold nmP pN;rw [decide_eq_false h,Bool.false_and,Bool.false_and]
theorem ixP_app(p:HH->Bool):∀(a:List HH) (x:HH) (b:List HH),(∀y∈a,p y=false)->p x=true->ixP p (a++x::b)=(a.length:Int)
 |[],x,b,_,hx=>by rw [zaM,ixP,if_pos hx];rfl
 |y::a,x,b,ha,hx=>by
  have:=ixP_app p a x b (fun z hz=>ha z (zat _ hz)) hx
  rw [zaz,ixP,if_neg (by rw [ha y zav];decide),this,if_neg (by omega),zaf];omega
theorem filter_ins(p:HH->Bool)(l:List HH)(i:Int)(x:HH)(hx:p x=true):(aig l i x).filter (fun y=> !p y)=l.filter (fun y=> !p y):=by
 unfold aig;rw [zbn,List.filter_cons_of_neg (by simp [hx]),<-zbn,List.take_append_drop]
theorem filter_idem(p:HH->Bool)(l:List HH):(l.filter (fun y=> !p y)).filter (fun y=> !p y)=l.filter (fun y=> !p y):=by rw [List.filter_filter];simp
theorem df_filter(l:List HH)(name:Str):(dfP l name).filter (fun y=> !nmP name y)=l.filter (fun y=> !nmP name y):=by
 unfold dfP;by_cases hi:ixP (nmP name) l= -1
 ·rw [if_pos (by omega)]
 ·obtain⟨a,x,b,rfl,e2,e3,e4⟩:=aiy _ _ hi;have he:el (a++x::b) (a.length:Int)=x:=by simp [el]
  rw [e4,if_neg (by omega),he,zaq];split
  ·have e5:nmP name (x.1,zaD ((afs x.2).drop 1) [44,32])=true:=e3;rw [List.set_append_right _ _ (zab _),Nat.sub_self,List.set_cons_zero,zbn,zbn];congr 1
   rw [zaH,zaH,e5,e3];rfl
  ·have hdel:delL (a++x::b) (a.length:Int) ((a.length:Int)+1)=a++b:=by
    unfold delL;rw [zaq,zaW,show((a.length:Int)+1).toNat=a.length+1 by omega,List.drop_append,zba (by omega),show a.length+1-a.length=1 by omega];rfl
   rw [hdel,zbn,zbn,List.filter_cons_of_neg (by simp [e3])]
theorem all_app(a b:List HH)(name:Str):allP (a++b) name=allP a name++allP b name:=by unfold allP;rw [zaF]
theorem all_none(a:List HH)(name:Str)(h:∀y∈a,nmP name y=false):allP a name=[]:=by
 unfold allP;rw [List.flatMap_eq_nil_iff];intro y hy;unfold vlsP;rw [if_neg (by rw [h y hy];decide)]
theorem all_less(l:List HH)(name:Str):allP (dfP l name) name=(allP l name).drop 1:=by
 unfold dfP;by_cases hi:ixP (nmP name) l= -1
 ·rw [if_pos (by omega),all_none l name (ixP_none _ _ hi)];rfl
 ·obtain⟨a,x,b,rfl,e2,e3,e4⟩:=aiy _ _ hi;have he:el (a++x::b) (a.length:Int)=x:=by simp [el]
  have hx:allP (a++x::b) name=vlsP name x++allP b name:=by rw [all_app,all_none a name e2,zaM];unfold allP;rw [zar]
  rw [e4,if_neg (by omega),he,zaq,hx];by_cases h1:mnyQ name=true/\1<(afs x.2).length
  ·rw [if_pos h1,List.set_append_right _ _ (zab _),Nat.sub_self,List.set_cons_zero,all_app,all_none a name e2,zaM];have hv:vlsP name (x.1,zaD ((afs x.2).drop 1) [44,32])=(afs x.2).drop 1:=by
    have e:nmP name (x.1,zaD ((afs x.2).drop 1) [44,32])=nmP name x:=rfl;unfold vlsP;rw [e,if_pos e3,if_pos h1.1];exact elem_rest x.2 h1.2
   have hv2:vlsP name x=afs x.2:=by unfold vlsP;rw [if_pos e3,if_pos h1.1]
   have hc:allP ((x.1,zaD ((afs x.2).drop 1) [44,32])::b) name=vlsP name (x.1,zaD ((afs x.2).drop 1) [44,32])++allP b name:=by unfold allP;rw [zar]
   rw [hc,hv,hv2,List.drop_append_of_le_length (by omega)]
  ·have hdel:delL (a++x::b) (a.length:Int) ((a.length:Int)+1)=a++b:=by
    unfold delL;rw [zaq,zaW,show((a.length:Int)+1).toNat=a.length+1 by omega,List.drop_append,zba (by omega),show a.length+1-a.length=1 by omega];rfl
   have hone:(vlsP name x).length=1:=by
    unfold vlsP;rw [if_pos e3];by_cases hy:mnyQ name=true
    ·rw [if_pos hy]
     have:=List.length_pos_iff.2 (elem_ne x.2)
     have:¬1<(afs x.2).length:=fun h=>h1 ⟨hy,h⟩
     omega
    ·rw [if_neg hy];rfl
   rw [if_neg h1,hdel,all_app,all_none a name e2,zaM,List.drop_append_of_le_length (by omega),zba (by omega),zaM]
end Go.Wk
