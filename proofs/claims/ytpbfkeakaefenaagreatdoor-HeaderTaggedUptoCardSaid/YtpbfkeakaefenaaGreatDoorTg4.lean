/-
  The law HeaderTagged (part 4 of 8).
-/
import Derived.Test.YtpbfkeakaefenaaGreatDoorTg3
import GoSem.Core.Utf8
set_option linter.unusedVariables false
set_option linter.unusedSimpArgs false
namespace Go.Oe
open Go.Wk
open Go.Ce (Tr)
open Go.Op renaming operands → zav
open List renaming append_nil → zam, eq_nil_of_length_eq_zero → zao, mem_append_left → zbc, mem_append_right → zaV, mem_cons_of_mem → zaf, mem_cons_self → zah
open Nat renaming beq → zai, blt → zaW, eq_of_beq_eq_true → zag
section
variable {C : Cx} {ev : Operand → SV} {H : List Ob}
theorem arp{o2 x:Ob}{id:Nat}(h:H[id]? =some o2):(H++[x])[id]? =some o2:=by
 rw [List.getElem?_append_left (List.getElem?_eq_some_iff.1 h).1];exact h
theorem asl{α:Type}{l:List α}{k j:Nat}{y:α}(h:k≠j):(apb l k y)[j]? =l[j]? :=by
 rw [ach,if_neg (fun hh=>h hh.1.symm)]
theorem opM_chg{op:Op}{ro:Ro}(h:opM C ev H op=some ro){id:Nat}{o2:Ob}(hm:∀q∈ro.m,q.1≠id)(hid:H[id]? =some o2):ro.H[id]? =some o2:=by
 cases hq:quietO C op with
 |true=>
  have:=(quiet_H (H2:=H) hq h (fun _ _ _ h=>h)).1
  rw [this];exact hid
 |false=>
  cases op<;>first|exact absurd (show true=false from hq) (by simp)|cases h|skip
  case convert s t x=>
   obtain⟨c,h1,h2⟩:=abd (show on1 (ev x) (conS C H s t)=some ro from h)
   unfold conS at h2
   split at h2
   ·have h3:=(aag (aag h2).2).2
    split at h3
    ·cases h3;exact hid
    ·cases h3
   ·split at h2
    ·split at h2
     ·have h3:=(aag (aag h2).2).2
      cases h3;exact arp hid
     ·obtain⟨g,v,_,rfl⟩:=akd h2;exact hid
    ·obtain⟨g,v,_,rfl⟩:=akd h2;exact hid
  case slice t x lo hi mx=>
   have hstr:anj C t=false:=hq
   cases mx with
   |some m=>cases h
   |none=>
    have h:(bif anj C t then pur H (on1 (ev x) fun a=>onO ev lo fun i=>onO ev hi fun j=>cutC a i j)else on1 (ev x) fun a=>onO ev lo fun i=>onO ev hi fun j=>opSl C H t a i j)=some ro:=h
    rw [hstr]at h
    obtain⟨c,h1,h2⟩:=abd (show on1 (ev x) (fun a=>onO ev lo fun i=>onO ev hi fun j=>opSl C H t a i j)=some ro from h)
    have key:∀i j,opSl C H t c i j=some ro→ro.H[id]? =some o2:=fun i j hop=>by
     obtain⟨id2,e2,τ,l,_,_,_,_,_,hc⟩:=opSl_some hop
     rcases hc with⟨b,k,_,_,_,rfl⟩|⟨b,k,_,_,_,rfl⟩<;>exact arp hid
    rcases anq h2 with⟨h4,h5⟩|⟨o,b,h4,h5,h6⟩
    ·rcases anq h5 with⟨h7,h8⟩|⟨o2,b2,h7,h8,h9⟩
     ·exact key _ _ h8
     ·exact key _ _ h9
    ·rcases anq h6 with⟨h7,h8⟩|⟨o2,b2,h7,h8,h9⟩
     ·exact key _ _ h8
     ·exact key _ _ h9
  case alloc e=>
   simp only [opM]at h
   split at h
   ·cases h;exact arp hid
   ·cases h
  case box e x=>
   simp only [opM]at h
   split at h
   ·cases h;exact arp hid
   ·cases h
  case buildSlice t n ps=>
   simp only [opM,amk]at h
   split at h
   ·split at h
    ·have h3:=(aag (aag h).2).2
     split at h3
     ·cases h3;exact arp hid
     ·cases h3
    ·cases h
   ·cases h
  case store t x y=>
   obtain⟨c,h1,h2⟩:=abd (show on1 (ev x) (fun a=>opStore C H t a (ev y))=some ro from h)
   unfold opStore at h2
   split at h2
   ·rename_i n vs _ _
    have h2:=(aag h2).2
    split at h2
    ·split at h2
     ·split at h2
      ·cases h2
       rw [asl (hm _ zah)];exact hid
      ·cases h2
     ·cases h2
    ·rename_i id2 j sz off
     cases hz:zai n 0 with
     |true=>rw [hz]at h2;cases h2
     |false=>
      rw [hz]at h2
      simp only [cond_false]at h2
      split at h2
      ·split at h2
       ·have h3:=(aag h2).2
        cases h3
        rw [asl (hm _ zah)];exact hid
       ·cases h2
      ·split at h2
       ·split at h2
        ·have h3:=(aag h2).2
         cases h3
         rw [asl (hm _ zah)];exact hid
        ·cases h2
       ·cases h2
      ·cases h2
    ·cases h2
   ·cases h2
  case makeSlice t x y=>
   obtain⟨a,h1,h2⟩:=abd (show on1 (ev x) (fun a=>on1 (ev y) fun i=>opMake C H t (isZ x) a i)=some ro from h)
   obtain⟨c,h3,h4⟩:=abd h2
   unfold opMake at h4
   split at h4
   ·have h5:=(aag h4).2
    split at h5
    ·cases h5;exact arp hid
    ·cases h5
   ·cases h4
  case call c=>
   obtain⟨callee,azq,ts⟩:=c
   cases callee<;>first|cases h|skip
   rename_i b
   have h:ahm C ev H b azq.toList ts.toList=some ro:=h
   unfold ahm at h
   split at h
   ·obtain⟨g,v,_,rfl⟩:=akd h;exact hid
   ·rename_i x y t t2 e1 e2 e3
    cases hbt:zai t t2 with
    |true=>
     rw [hbt]at h
     obtain⟨a,h1,h2⟩:=abd h
     obtain⟨c,h3,h4⟩:=abd h2
     unfold opAppend at h4
     split at h4
     ·split at h4
      ·split at h4
       ·cases h4;exact arp hid
       ·cases h4
      ·split at h4
       ·cases h4
        exact arp (by rw [asl (hm _ zah)];exact hid)
       ·cases h4
      ·split at h4
       ·cases h4
        exact arp (by rw [asl (hm _ zah)];exact hid)
       ·cases h4
      ·cases h4
     ·cases h4
    |false=>
     rw [hbt]at h
     obtain⟨a,h1,h2⟩:=abd h
     obtain⟨c,h3,h4⟩:=abd h2
     obtain⟨l2,e2,_,_,_,_,hc⟩:=appS_some h4
     rcases hc with⟨_,rfl⟩|⟨id2,l,_,_,rfl⟩
     ·exact arp hid
     ·exact arp (by rw [asl (hm _ zah)];exact hid)
   ·obtain⟨g,v,_,rfl⟩:=akd h;exact hid
   ·cases h
end
theorem appL_get{H obs:List Ob}{o2:Ob}{id:Nat}(h:H[id]? =some o2):(H++obs)[id]? =some o2:=by
 rw [List.getElem?_append_left (List.getElem?_eq_some_iff.1 h).1];exact h
theorem putR_chg{ss:List Src}{id:Nat}{o:Ob}:∀{r:List Rk} {y:(resT r).T} {l:List SA} {H:List Ob},id∉outIds ss (Rk.ids r)→H[id]? =some o→(putR (ixS ss) (l,H) r y).2[id]? =some o:=by
 have one:∀(q:Rk) (v:q.ty.T) (l:List SA) (H:List Ob),id∉outIds ss (Rk.ids [q])→H[id]? =some o→(q.put (ixS ss) (l,H) v).2[id]? =some o:=by
  intro q v l H hn ho
  cases q with
  |r' x=>exact appL_get ho
  |o' j e x=>exact appL_get (by rw [asl (fun e=>hn (by show id∈[ixS ss j];rw [e];exact List.mem_singleton.2 rfl))];exact ho)
  |w' j x=>
   show(putW H (ixS ss j) x v)[id]? =some o
   unfold putW
   split
   ·rw [asl (fun e=>hn (by show id∈[ixS ss j];rw [e];exact List.mem_singleton.2 rfl))];exact ho
   ·exact ho
 intro r
 induction r with
 |nil=>intro y l H _ ho;exact ho
 |cons q r ih=>
  intro y l H hn ho
  cases r with
  |nil=>exact one q y l H hn ho
  |cons q2 r=>
   have hs:id∉outIds ss (Rk.ids [q])∧id∉outIds ss (Rk.ids (q2::r)):=by
    cases q with
    |r' x=>exact⟨(fun h=>by cases h),hn⟩
    |o' i e x=>exact⟨fun h=>hn (List.mem_cons.2 (.inl (List.mem_singleton.1 h))),fun h=>hn (zaf _ h)⟩
    |w' i x=>exact⟨fun h=>hn (List.mem_cons.2 (.inl (List.mem_singleton.1 h))),fun h=>hn (zaf _ h)⟩
   exact ih hs.2 (one q y.1 l H hs.1 ho)
theorem wholeL_fst{H:List Ob}{l:List Nat}{id:Nat}(h:id∈l):∃q∈amh H l,q.1=id:=⟨_,asv h,rfl⟩
theorem cellsL_fst{H:List Ob}:∀{l:List Nat} {id:Nat},id∈l→∃q∈cellsL H l,q.1=id
 |x::l,id,h=>by
  rcases List.mem_cons.1 h with rfl|h
  ·exact⟨_,zah,rfl⟩
  ·obtain⟨q,h1,h2⟩:=cellsL_fst (H:=H) h
   exact⟨q,zaf _ h1,h2⟩
section
variable {C : Cx} {ops : List Oper} {S S1 : St} {o : Oper}
theorem lay_flat1:∀(t:Ty) (s n n2:Nat) (x:t.T),t.no=0→(t.lay s n x).1=(t.lay s n2 x).1:=by
 intro t
 induction t with
 |w' t ih=>intro s n n2 x h;exact ih s n n2 x h
 |pr a b iha ihb=>
  intro s n n2 x h
  have h1:a.no=0:=by have:a.no+b.no=0:=h;omega
  have h2:b.no=0:=by have:a.no+b.no=0:=h;omega
  show(a.lay s n x.1).1++(b.lay s (n+a.no) x.2).1=(a.lay s n2 x.1).1++(b.lay s (n2+a.no) x.2).1
  rw [iha s n n2 x.1 h1,ihb s (n+a.no) (n2+a.no) x.2 h2]
 |f' k t ih=>
  intro s n n2 x h
  show [SC.f' k (ptrL (t.lay s n x).1)]=[SC.f' k (ptrL (t.lay s n2 x).1)]
  rw [ih s n n2 x h]
 |l' e b t ih=>intro s n n2 x h;cases h
 |y'=>intro s n n2 x h;cases h
 |r' t ih=>intro s n n2 x h;cases h
 |p' e t ih=>intro s n n2 x h;cases h
 |z'=>intro s n n2 x h;cases h
 |_=>intro s n n2 x h;rfl
theorem rd_flat{any:Bool}{H H2:List Ob}:∀(t:Ty) (s:Nat) (l:List SC),t.no=0→t.rd any H2 s l=t.rd any H s l∧∀x r ss,t.rd any H s l=some (x,r,ss)→ss=[]:=by
 intro t
 induction t with
 |w' t ih=>intro s l h;exact ih s l h
 |pr a b iha ihb=>
  intro s l h
  have h1:a.no=0:=by have:a.no+b.no=0:=h;omega
  have h2:b.no=0:=by have:a.no+b.no=0:=h;omega
  obtain⟨e1,e2⟩:=iha s l h1
  simp only [Ty.rd]
  rw [e1]
  cases hp:a.rd any H s l with
  |none=>exact⟨rfl,fun x r ss h=>by cases h⟩
  |some q=>
   obtain⟨x,l1,s1⟩:=q
   obtain⟨e3,e4⟩:=ihb s l1 h2
   simp only
   rw [e3]
   cases hq:b.rd any H s l1 with
   |none=>exact⟨rfl,fun x r ss h=>by cases h⟩
   |some q2=>
    obtain⟨y,l2,s2⟩:=q2
    refine⟨rfl,fun x r ss h=> ?_⟩
    cases h
    rw [e2 _ _ _ hp,e4 _ _ _ hq];rfl
 |sm a b _ _=>intro s l h;exact⟨rfl,fun x r ss h=>by cases h⟩
 |l' e b t ih=>intro s l h;cases h
 |y'=>intro s l h;cases h
 |r' t ih=>intro s l h;cases h
 |p' e t ih=>intro s l h;cases h
 |z'=>intro s l h;cases h
 |u'=>intro s l h;exact⟨rfl,fun x r ss h=>by cases h;rfl⟩
 |o' j=>
  intro s l h
  refine⟨rfl,fun x r ss h=> ?_⟩
  simp only [Ty.rd]at h
  split at h
  ·have:=aag h;cases this.2;rfl
  ·cases h
 |f' k t ih=>
  intro s l h
  have h:t.no=0:=h
  simp only [Ty.rd]
  split
  ·rename_i k' ids l1
   obtain⟨e1,e2⟩:=ih s (ids.map fun id=>.p' id 0) h
   rw [e1]
   refine⟨rfl,fun x r ss h=> ?_⟩
   have h:=(aag h).2
   split at h
   ·rename_i x2 s2 hq
    cases h
    have:=aag hq
    exact e2 _ _ _ this.2
   ·cases h
  ·exact⟨rfl,fun x r ss h=>by cases h⟩
 |_=>
  intro s l h
  refine⟨rfl,fun x r ss h=> ?_⟩
  obtain⟨c,_,_,h3⟩:=hd1_some h
  exact h3
theorem rdV_flat{any:Bool}{H H2:List Ob}{x:Ty}{v:SV}(h:x.no=0):rdV any H2 x v=rdV any H x v∧∀y ss,rdV any H x v=some (y,ss)→ss=[]:=by
 have key:∀l,fulL (x.rd any H2 0 l)=fulL (x.rd any H 0 l)∧∀y ss,fulL (x.rd any H 0 l)=some (y,ss)→ss=[]:=by
  intro l
  obtain⟨e1,e2⟩:=rd_flat (any:=any) (H:=H) (H2:=H2) x 0 l h
  rw [e1]
  refine⟨rfl,fun y ss h=> ?_⟩
  unfold fulL at h
  split at h
  ·rename_i hq;cases h;exact e2 _ _ _ hq
  ·cases h
 cases v with
 |c' c=>
  simp only [rdV]
  cases x.tz<;>cases x.agg<;>simp only [cond_true,cond_false]<;>first|exact key _|exact⟨rfl,fun y ss h=>by cases h⟩|exact⟨trivial,fun y ss h=>by cases h⟩
 |a' l=>
  simp only [rdV]
  cases x.tz<;>cases x.agg<;>simp only [cond_true,cond_false]<;>first|exact key _|exact⟨rfl,fun y ss h=>by cases h⟩|exact⟨trivial,fun y ss h=>by cases h⟩
 |_=>exact⟨rfl,fun y ss h=>by cases h⟩
theorem rdA_flat{H H2:List Ob}:∀(l:List Ty) (vs:List SV),flatA l=true→rdA H2 l vs=rdA H l vs∧∀y ss,rdA H l vs=some (y,ss)→ss=[]
 |[],vs,h=>by
  cases vs with
  |nil=>exact⟨rfl,fun y ss h=>by cases h;rfl⟩
  |cons v vs=>exact⟨rfl,fun y ss h=>by cases h⟩
 |[x],vs,h=>by
  have h:=aeo (show(bif zai x.no 0 then flatA []else false)=true from h)
  have hx:=zag h.1
  match vs with
  |[]=>exact⟨rfl,fun y ss h=>by cases h⟩
  |[v]=>exact rdV_flat hx
  |_::_::_=>exact⟨rfl,fun y ss h=>by cases h⟩
 |x::y::l,vs,h=>by
  have h:=aeo (show(bif zai x.no 0 then flatA (y::l)else false)=true from h)
  have hx:=zag h.1
  match vs with
  |[]=>exact⟨rfl,fun y ss h=>by cases h⟩
  |v::vs=>
   obtain⟨e1,e2⟩:=rdV_flat (any:=true) (H:=H) (H2:=H2) (v:=v) hx
   obtain⟨e3,e4⟩:=rdA_flat (H:=H) (H2:=H2) (y::l) vs h.2
   simp only [rdA]
   rw [e1]
   cases hp:rdV true H x v with
   |none=>exact⟨rfl,fun y ss h=>by cases h⟩
   |some q=>
    obtain⟨a,s1⟩:=q
    simp only
    rw [e3]
    cases hq:rdA H (y::l) vs with
    |none=>exact⟨rfl,fun y ss h=>by cases h⟩
    |some q2=>
     obtain⟨b,s2⟩:=q2
     refine⟨rfl,fun y ss h=> ?_⟩
     cases h
     rw [e2 _ _ hp,e4 _ _ hq];rfl
theorem layA_flat:∀(l:List Ty) (H:List Ob) (x:(tupT l).T),flatA l=true→(apn H l x).2=H
 |[],H,x,h=>rfl
 |[t],H,x,h=>by
  have h:=aeo (show(bif zai t.no 0 then flatA []else false)=true from h)
  show H++(t.lay 0 H.length x).2=H
  rw [zao ((Ty.lay_no t 0 H.length x).trans (zag h.1)),zam]
 |t::y::l,H,x,h=>by
  have h:=aeo (show(bif zai t.no 0 then flatA (y::l)else false)=true from h)
  show(apn (H++(t.lay 0 H.length x.1).2) (y::l) x.2).2=H
  rw [zao ((Ty.lay_no t 0 H.length x.1).trans (zag h.1)),zam]
  exact layA_flat (y::l) H x.2 h.2
theorem flatR_cons{k:Rk}{l:List Rk}(h:flatR (k::l)=true):∃x,k=.r' x∧x.no=0∧flatR l=true:=by
 cases k with
 |r' x=>
  have h:=aeo (show(bif zai x.no 0 then flatR l else false)=true from h)
  exact⟨x,rfl,zag h.1,h.2⟩
 |_=>cases h
theorem putR_flat{ix:Nat→Nat}:∀(r:List Rk) (y:(resT r).T) (l:List SA) (H:List Ob),flatR r=true→(putR ix (l,H) r y).2=H∧∀H2,(putR ix (l,H2) r y).1=(putR ix (l,H) r y).1
 |[],y,l,H,h=>⟨rfl,fun _=>rfl⟩
 |[k],y,l,H,h=>by
  obtain⟨x,rfl,hx,_⟩:=flatR_cons h
  have e:∀n,(x.lay 0 n y).2=[]:=fun n=>zao ((Ty.lay_no x 0 n y).trans hx)
  refine⟨?_,fun H2=> ?_⟩
  ·show H++(x.lay 0 H.length y).2=H
   rw [e,zam]
  ·show l++[x.sa (x.lay 0 H2.length y).1]=l++[x.sa (x.lay 0 H.length y).1]
   rw [lay_flat1 x 0 H2.length H.length y hx]
 |k::k2::r,y,l,H,h=>by
  obtain⟨x,rfl,hx,hr⟩:=flatR_cons h
  have e:∀n,(x.lay 0 n y.1).2=[]:=fun n=>zao ((Ty.lay_no x 0 n y.1).trans hx)
  have e2:∀H,putR ix (l,H) (.r' x::k2::r) y=putR ix (l++[x.sa (x.lay 0 0 y.1).1],H) (k2::r) y.2:=fun H=>by
   show putR ix (l++[x.sa (x.lay 0 H.length y.1).1],H++(x.lay 0 H.length y.1).2) (k2::r) y.2=_
   rw [e,zam,lay_flat1 x 0 H.length 0 y.1 hx]
  rw [e2]
  obtain⟨h1,h2⟩:=putR_flat (k2::r) y.2 (l++[x.sa (x.lay 0 0 y.1).1]) H hr
  refine⟨h1,fun H2=> ?_⟩
  rw [e2];exact h2 H2
theorem ids_flat:∀(r:List Rk),flatR r=true→Rk.ids r=[]
 |[],h=>rfl
 |k::r,h=>by
  obtain⟨x,rfl,_,hr⟩:=flatR_cons h
  exact ids_flat r hr
theorem rkOk_flat{H H2:List Ob}{ss:List Src}:∀(r:List Rk),flatR r=true→rkOk H2 ss r=rkOk H ss r
 |[],h=>rfl
 |k::r,h=>by
  obtain⟨x,rfl,_,hr⟩:=flatR_cons h
  simp only [rkOk]
  rw [rkOk_flat r hr]
theorem flatX_mem:∀{l:List Con} {c:Con},c∈l→flatX l=true→flatA c.a=true∧flatR c.r=true
 |x::l,c,hc,h=>by
  have h:=aeo (show(bif flatA x.a then(bif flatR x.r then flatX l else false)else false)=true from h)
  have h2:=aeo h.2
  rcases List.mem_cons.1 hc with rfl|hc
  ·exact⟨h.1,h2.1⟩
  ·exact flatX_mem hc h2.2
theorem callS_at{c:Con}{d:Option Nat}{a:(tupT c.a).T}{ss:List Src}{y:(resT c.r).T}{t:Nat}:(callS c S d a ss y).at t=if d=some t then resV (putR (ixS ss) ([],kill S.H (aub (Rk.ids c.r) (apn [] c.a a).2 0 ss)) c.r y).1 else S.at t:=by
 have e:callS c S d a ss y=St.setO ⟨S.F,(putR (ixS ss) ([],kill S.H (aub (Rk.ids c.r) (apn [] c.a a).2 0 ss)) c.r y).2,S.nb,S.al,callM c S a ss++S.m⟩ d (resV (putR (ixS ss) ([],kill S.H (aub (Rk.ids c.r) (apn [] c.a a).2 0 ss)) c.r y).1):=rfl
 rw [e,at_setO]
 rfl
theorem aoh{S:St}{d:Option Nat}{v:SV}:(S.setO d v).H=S.H∧(S.setO d v).m=S.m∧(S.setO d v).nb=S.nb∧(S.setO d v).al=S.al:=by cases d<;>exact⟨rfl,rfl,rfl,rfl⟩
theorem apt{c:Con}{d:Option Nat}{a:(tupT c.a).T}{ss:List Src}{y:(resT c.r).T}:(callS c S d a ss y).H=(putR (ixS ss) ([],kill S.H (aub (Rk.ids c.r) (apn [] c.a a).2 0 ss)) c.r y).2∧(callS c S d a ss y).m=callM c S a ss++S.m∧(callS c S d a ss y).nb=S.nb∧(callS c S d a ss y).al=S.al:=by
 have e:callS c S d a ss y=St.setO ⟨S.F,(putR (ixS ss) ([],kill S.H (aub (Rk.ids c.r) (apn [] c.a a).2 0 ss)) c.r y).2,S.nb,S.al,callM c S a ss++S.m⟩ d (resV (putR (ixS ss) ([],kill S.H (aub (Rk.ids c.r) (apn [] c.a a).2 0 ss)) c.r y).1):=rfl
 rw [e]
 exact⟨aoh.1,aoh.2.1,aoh.2.2.1,aoh.2.2.2⟩
theorem arb{c:Con}{d:Option Nat}{a:(tupT c.a).T}{y:(resT c.r).T}(ha:flatA c.a=true)(hr:flatR c.r=true):(callS c S d a [] y).H=S.H∧(callS c S d a [] y).m=S.m∧callM c S a []=[]∧∀S2:St,resV (putR (ixS []) ([],kill S2.H (aub (Rk.ids c.r) (apn [] c.a a).2 0 [])) c.r y).1=resV (putR (ixS []) ([],kill S.H (aub (Rk.ids c.r) (apn [] c.a a).2 0 [])) c.r y).1:=by
 have e1:aub (Rk.ids c.r) (apn [] c.a a).2 0 []=[]:=by rw [layA_flat c.a [] a ha];rfl
 have e2:callM c S a []=[]:=by
  unfold callM
  rw [e1,ids_flat c.r hr];rfl
 refine⟨?_, ?_,e2,fun S2=> ?_⟩
 ·rw [apt.1,e1]
  exact(putR_flat c.r y [] S.H hr).1
 ·rw [apt.2.1,e2];rfl
 ·rw [e1]
  show resV (putR (ixS []) ([],S2.H) c.r y).1=resV (putR (ixS []) ([],S.H) c.r y).1
  rw [(putR_flat c.r y [] S.H hr).2 S2.H]
theorem opM_qt{ev:Operand→SV}{H:List Ob}{op:Op}{ro:Ro}(h:opM C ev H op=some ro)(hq:qt C op=true):quietO C op=true:=by
 unfold qt at hq
 cases hqq:quietO C op with
 |true=>rfl
 |false=>
  rw [hqq]at hq
  simp only [cond_false]at hq
  split at hq
  ·rename_i c
   split at hq
   ·rename_i k hc
    simp only [opM,hc]at h
    cases h
   ·cases hq
  ·cases hq
theorem callT_flat(h:CallT C S o S1)(hq:qt C o.op=true):∃cal f k ids c a y,o.op=.call cal∧cal.callee=.value f∧S.ev C f=.c' (.f' k ids)∧c∈C.X k∧rdA S.H c.a (cal.args.toList.map (S.ev C)++capV ids)=some (a,[])∧callOk c S a []=true∧(c.f a).ok y∧S1=callS c S o.dst a [] y∧flatA c.a=true∧flatR c.r=true:=by
 obtain⟨cal,f,k,ids,c,a,ss,y,hop,hf,hfv,hc,hr,hok,hy,hS1⟩:=h.ex
 unfold qt at hq
 rw [hop]at hq
 have hq1:quietO C (.call cal)=false:=by
  show(match cal.callee with
   |.builtin .len=>true
   |.builtin .min=>true
   |.builtin .max=>true
   |_=>false)=false
  rw [hf]
 rw [hq1]at hq
 simp only [cond_false,hf]at hq
 split at hq
 ·rename_i k2 hk2
  cases hk2
  have hfv2:S.ev C (.func k2)=.c' (.f' k2 []):=rfl
  rw [hfv2]at hfv
  cases hfv
  obtain⟨h1,h2⟩:=flatX_mem hc hq
  obtain rfl:=(rdA_flat (H:=S.H) (H2:=S.H) c.a _ h1).2 a ss hr
  exact⟨cal,_,_,_,c,a,y,hop,hf,hfv2,hc,hr,hok,hy,hS1,h1,h2⟩
 ·cases hq
theorem adv_fr(h:Adv C ops S o S1):(∀t,o.dst≠some t→S1.at t=S.at t)∧S1.nb=S.nb∧S1.al=S.al:=by
 cases h with
 |op hg ro h ha hd hm=>
  refine⟨fun t ht=> ?_,aoh.2.2.1,aoh.2.2.2⟩
  rw [at_setO,if_neg ht];rfl
 |mv hg x d b hx hd hb=>exact⟨fun t ht=>by rw [at_set,if_neg (fun e=>ht (by rw [hd,e]))],rfl,rfl⟩
 |skip hg d hd=>exact⟨fun t ht=>by rw [at_set,if_neg (fun e=>ht (by rw [hd,e]))],rfl,rfl⟩
 |call hg _ h=>
  obtain⟨cal,f,k,ids,c,a,ss,y,_,_,_,_,_,_,_,rfl⟩:=h
  exact⟨fun t ht=>by rw [callS_at,if_neg ht],apt.2.2.1,apt.2.2.2⟩
theorem adv_quiet(h:Adv C ops S o S1)(hq:qt C o.op=true):S1.H=S.H∧S1.m=S.m:=by
 cases h with
 |op hg ro h ha hd hm=>
  have:=quiet_H (H2:=S.H) (opM_qt h hq) h (fun _ _ _ h=>h)
  refine⟨aoh.1.trans this.1,aoh.2.1.trans ?_⟩
  show ro.m++S.m=S.m
  rw [this.2.1];rfl
 |mv hg x d b hx hd hb=>exact⟨rfl,rfl⟩
 |skip hg d hd=>exact⟨rfl,rfl⟩
 |call hg _ h=>
  obtain⟨cal,f,k,ids,c,a,y,_,_,_,_,_,_,_,rfl,h1,h2⟩:=callT_flat h hq
  exact⟨(arb h1 h2).1,(arb h1 h2).2.1⟩
theorem adv_chg(h:Adv C ops S o S1):∃mn,S1.m=mn++S.m∧∀(id:Nat) (o2:Ob),(∀q∈mn,q.1≠id)→aiw S.H id=some o2→aiw S1.H id=some o2:=by
 cases h with
 |op hg ro h ha hd hm=>
  refine⟨ro.m,aoh.2.1,fun id o2 hq hid=> ?_⟩
  rw [aap]at hid⊢
  rw [aoh.1]
  exact opM_chg h hq hid
 |mv hg x d b hx hd hb=>exact⟨[],rfl,fun id o2 _ h=>h⟩
 |skip hg d hd=>exact⟨[],rfl,fun id o2 _ h=>h⟩
 |call hg _ h=>
  obtain⟨cal,f,k,ids,c,a,ss,y,_,_,_,_,_,_,_,rfl⟩:=h
  refine⟨callM c S a ss,apt.2.1,fun id o2 hq hid=> ?_⟩
  rw [aap]at hid⊢
  rw [apt.1]
  refine putR_chg (fun hh=> ?_) ?_
  ·obtain⟨q,h1,h2⟩:=cellsL_fst (H:=S.H) hh
   exact hq q (zaV _ h1) h2
  ·rw [alv,if_neg (fun hh=> ?_)]
   ·exact hid
   ·obtain⟨q,h1,h2⟩:=wholeL_fst (H:=S.H) hh
    exact hq q (zbc _ h1) h2
theorem oks_congr{S S2:St}(hnb:S2.nb=S.nb)(hal:S2.al=S.al):∀l,S2.oks l=S.oks l
 |[]=>rfl
 |x::l=>by
  show(bif S2.ok x then S2.oks l else false)=(bif S.ok x then S.oks l else false)
  rw [oks_congr hnb hal l]
  unfold St.ok
  rw [hnb,hal]
theorem adv_move(h:Adv C ops S o S1){S2:St}(ho:∀t,Operand.tmp t∈o.op.operands→S2.at t=S.at t)(hg2:∀t∈gslot ops o,S2.at t=S.at t)(hnb:S2.nb=S.nb)(hal:S2.al=S.al)
  (hq:qt C o.op=true→Agr S.H S2.H (footO (S.ev C) o.op)) (hh:qt C o.op=false→S2.H=S.H):
  ∃S3,Adv C ops S2 o S3∧(∀t,S3.at t=if o.dst=some t then S1.at t else S2.at t)∧S3.nb=S.nb∧S3.al=S.al∧(qt C o.op=true→S3.H=S2.H∧S3.m=S2.m)∧(qt C o.op=false→S3.H=S1.H∧∀mn,S1.m=mn++S.m→S3.m=mn++S2.m):=by
 have hev:∀x∈o.op.operands,S2.ev C x=S.ev C x:=by
  intro x hx
  cases x with
  |tmp t=>show(bif zaW t C.nn then S2.at t else .u')=(bif zaW t C.nn then S.at t else .u');rw [ho t hx]
  |_=>rfl
 have hgr:∀b,Grd C ops S o b→Grd C ops S2 o b:=by
  intro b hg
  have gs:∀(q:Nat×Bool) (dg:Nat),o.guard=some q→gdst ops q.1=some dg→S2.at dg=S.at dg:=by
   intro q dg h1 h2
   refine hg2 dg ?_
   unfold gslot
   rw [h1]
   simp only [h2,List.mem_singleton]
  cases hg with
  |none h=>exact .none h
  |yes q dg h h1 h2 h3=>exact .yes q dg h h1 h2 (by rw [gs q dg h h1];exact h3)
  |no q dg h h1 h2 h3=>exact .no q dg h h1 h2 (by rw [gs q dg h h1];exact h3)
  |un q dg h h1 h2 h3=>exact .un q dg h h1 h2 (by rw [gs q dg h h1];exact h3)
 have hsame:= @quiet_H C
 cases h with
 |op hg ro h ha hd hm=>
  cases hqq:qt C o.op with
  |true=>
   have h1:=quiet_H (H2:=S2.H) (opM_qt h hqq) h (hq hqq)
   have h2:opM C (S2.ev C) S2.H o.op=some ⟨ro.g,ro.v,S2.H,[]⟩:=by rw [opM_congr hev];exact h1.2.2
   refine⟨_,.op (hgr _ hg) ⟨ro.g,ro.v,S2.H,[]⟩ h2 ha hd rfl,fun t=> ?_,aoh.2.2.1.trans hnb,aoh.2.2.2.trans hal,fun _=>⟨aoh.1,aoh.2.1⟩,fun e=>by cases e⟩
   rw [at_setO,at_setO]
   split<;>rfl
  |false=>
   have hH:=hh hqq
   have h2:opM C (S2.ev C) S2.H o.op=some ro:=by rw [opM_congr hev,hH];exact h
   refine⟨_,.op (hgr _ hg) ro h2 ha hd (by rw [oks_congr hnb hal];exact hm),fun t=> ?_,aoh.2.2.1.trans hnb,aoh.2.2.2.trans hal,(fun e=>by cases e),fun _=>⟨by rw [aoh.1,aoh.1],fun mn hmn=> ?_⟩⟩
   ·rw [at_setO,at_setO]
    split<;>rfl
   ·rw [aoh.2.1]at hmn⊢
    have:=List.append_cancel_right hmn
    show ro.m++S2.m=_
    rw [this]
 |mv hg x d b hx hd hb=>
  have hxo:x∈o.op.operands:=by
   obtain⟨dst,op,ty,pos,after,gd⟩:=o
   cases op<;>first|cases hx|skip
   ·simp [zav]
   ·simp [zav]
  have hqq:qt C o.op=true:=by
   obtain⟨dst,op,ty,pos,after,gd⟩:=o
   cases op<;>first|cases hx|skip
   ·rfl
   ·rfl
  refine⟨_,.mv (hgr _ hg) x d b hx hd (by rw [hev x hxo];exact hb),fun t=> ?_,hnb,hal,fun _=>⟨rfl,rfl⟩,fun e=>by rw [hqq]at e;cases e⟩
  rw [at_set,at_set,hd]
  by_cases e:t=d
  ·subst e;simp
  ·have e2:¬(some d:Option Nat)=some t:=fun hh=>e (Option.some.inj hh).symm
   rw [if_neg e,if_neg e2]
 |skip hg d hd=>
  have fin:∀t,(S2.set d .n').at t=if o.dst=some t then(S.set d .n').at t else S2.at t:=by
   intro t
   rw [at_set,at_set,hd]
   by_cases e:t=d
   ·subst e;simp
   ·have e2:¬(some d:Option Nat)=some t:=fun hh=>e (Option.some.inj hh).symm
    rw [if_neg e,if_neg e2]
  exact⟨_,.skip (hgr _ hg) d hd,fin,hnb,hal,fun _=>⟨rfl,rfl⟩,fun hqq=>⟨hh hqq,fun mn hmn=>by
   have hmn:S.m=mn++S.m:=hmn
   have:mn=[]:=List.append_left_eq_self.1 hmn.symm
   rw [this];rfl⟩⟩
 |call hg _ h=>
  cases hqq:qt C o.op with
  |true=>
   obtain⟨cal,f,k,ids,c,a,y,hop,hf,hfv,hc,hr,hok,hy,rfl,hfa,hfr⟩:=callT_flat h hqq
   have hfo:f∈o.op.operands:=by rw [hop];simp [zav,Call.operands,hf]
   have has:cal.args.toList.map (S2.ev C)=cal.args.toList.map (S.ev C):=map_congr fun x hx=>hev x (by
    rw [hop]
    simp only [zav,Call.operands,Array.mem_append]
    exact .inr (by simpa using hx))
   have e0:∀Z:St,callM c Z a []=[]:=fun Z=>(arb (S:=Z) (d:=none) (y:=y) hfa hfr).2.2.1
   have hok2:callOk c S2 a []=true:=by
    unfold callOk at hok⊢
    rw [e0,rkOk_flat (H:=S.H) c.r hfr]
    rw [e0]at hok
    exact hok
   refine⟨_,.call (hgr _ hg) _ ⟨cal,f,k,ids,c,a,[],y,hop,hf,by rw [hev f hfo];exact hfv,hc,by rw [has,(rdA_flat (H:=S.H) (H2:=S2.H) c.a _ hfa).1];exact hr,hok2,hy,rfl⟩,fun t=> ?_,apt.2.2.1.trans hnb,apt.2.2.2.trans hal,fun _=>⟨(arb hfa hfr).1,(arb hfa hfr).2.1⟩,(fun e=>by cases e)⟩
   rw [callS_at,callS_at]
   by_cases e:o.dst=some t
   ·rw [if_pos e,if_pos e,if_pos e];exact(arb (S:=S) (d:=none) hfa hfr).2.2.2 S2
   ·rw [if_neg e,if_neg e]
  |false=>
  have hH:=hh hqq
  obtain⟨cal,f,k,ids,c,a,ss,y,hop,hf,hfv,hc,hr,hok,hy,rfl⟩:=h
  have hfo:f∈o.op.operands:=by rw [hop];simp [zav,Call.operands,hf]
  have has:cal.args.toList.map (S2.ev C)=cal.args.toList.map (S.ev C):=map_congr fun x hx=>hev x (by
   rw [hop]
   simp only [zav,Call.operands,Array.mem_append]
   exact .inr (by simpa using hx))
  have hok2:callOk c S2 a ss=true:=by
   unfold callOk at hok⊢
   rw [oks_congr hnb hal,hH]
   have e:callM c S2 a ss=callM c S a ss:=by unfold callM;rw [hH]
   rw [e];exact hok
  refine⟨_,.call (hgr _ hg) _ ⟨cal,f,k,ids,c,a,ss,y,hop,hf,by rw [hev f hfo];exact hfv,hc,by rw [has,hH];exact hr,hok2,hy,rfl⟩,fun t=> ?_,apt.2.2.1.trans hnb,apt.2.2.2.trans hal,(fun e=>by cases e),fun _=>⟨?_,fun mn hmn=> ?_⟩⟩
  ·rw [callS_at,callS_at,hH]
   split<;>rfl
  ·rw [apt.1,apt.1,hH]
  ·rw [apt.2.1]at hmn⊢
   have:=List.append_cancel_right hmn
   have e:callM c S2 a ss=callM c S a ss:=by unfold callM;rw [hH]
   rw [e,this]
end
open Go.Wk
open Go.Ce (Tr)
open Go.Op renaming operands → zav
open List renaming append_assoc → zaq, append_nil → zam, length_append → zac, length_nil → zal, length_singleton → zae, mem_cons_of_mem → zaf, mem_cons_self → zah
open Nat renaming add_assoc → zaK, add_comm → zaU, add_zero → zaM, beq → zai, eq_of_beq_eq_true → zag, le_refl → zap, le_trans → zaO, succ → zaA, zero_add → zbb
theorem ancs_get:∀(l:List Oper) (A:List (List Nat)),(∃B,ancs l A=A++B)∧∀(i:Nat) (o:Oper),l[i]? =some o→(ancs l A)[A.length+i]? =some (ancO ((ancs l A).take (A.length+i)) o.after.toList)
 |[],A=>⟨⟨[],by simp [ancs]⟩,fun i o h=>by simp at h⟩
 |o::l,A=>by
  obtain⟨⟨B,h1⟩,h2⟩:=ancs_get l (A++[ancO A o.after.toList])
  have e:ancs (o::l) A=ancs l (A++[ancO A o.after.toList]):=rfl
  refine⟨⟨[ancO A o.after.toList]++B,by rw [e,h1,zaq]⟩,fun i o2 h=> ?_⟩
  cases i with
  |zero=>
   have h:o=o2:=by simpa using h
   subst h
   rw [e,h1,zaM,zaq,List.getElem?_append_right (zap _),List.take_left]
   simp
  |succ i=>
   have:=h2 i o2 (by simpa using h)
   rw [zac,zae,zaK,zaU 1 i]at this
   rw [e];exact this
theorem ancO_mem{A:List (List Nat)}{j:Nat}:∀{l:List Edge},j∈ancO A l↔∃e∈l,Region.binds .any e=true∧(j=e.on∨j∈apc A e.on)
 |[]=>by simp [ancO]
 |e::l=>by
  have ih:=ancO_mem (A:=A) (j:=j) (l:=l)
  have hA:(match aiw A e.on with
   |some a=>a
   |none=>[])=apc A e.on:=rfl
  simp only [ancO,hA]
  cases hb:Region.binds .any e with
  |true=>
   simp only [cond_true,List.mem_append,List.mem_cons,ih,exists_eq_or_imp,hb,true_and]
   exact Iff.rfl
  |false=>
   simp only [cond_false,ih,List.mem_cons,exists_eq_or_imp,hb,Bool.false_eq_true,false_and,false_or]
theorem backE_of:∀{l:List Oper} {i:Nat},backE l i=true→∀(j:Nat) (o:Oper),l[j]? =some o→∀e∈o.after,Region.binds .any e=true→e.on<i+j
 |[],i,_,j,o,hj=>by simp at hj
 |x::l,i,h,j,o,hj=>by
  have h:=aeo (show(bif _ then backE l (zaA i)else false)=true from h)
  intro e he hb
  cases j with
  |zero=>
   have hj:x=o:=by simpa using hj
   subst hj
   have:=List.all_eq_true.1 h.1 e (by simpa using he)
   rw [hb]at this
   simpa [Nat.blt_eq] using this
  |succ j=>
   have:=backE_of h.2 j o (by simpa using hj) e he hb
   omega
theorem ancAt_take{A:List (List Nat)}{k i:Nat}(h:i<k):apc (A.take k) i=apc A i:=by
 unfold apc
 rw [aap,aap,List.getElem?_take,if_pos h]
section
variable {l : List Oper}
theorem anc_iff(hb:backE l 0=true){i:Nat}{o:Oper}(ho:l[i]? =some o){j:Nat}:j∈apc (ancs l []) i↔∃e∈o.after,Region.binds .any e=true∧(j=e.on∨j∈apc (ancs l []) e.on):=by
 have h:=(ancs_get l []).2 i o ho
 rw [zal,zbb]at h
 have e:apc (ancs l []) i=ancO ((ancs l []).take i) o.after.toList:=by
  unfold apc
  rw [aap,h]
 rw [e,ancO_mem]
 constructor
 ·rintro⟨e,he,h1,h2⟩
  have he2:e∈o.after:=by simpa using he
  have:=backE_of hb i o ho e he2 h1
  rw [ancAt_take (by omega)]at h2
  exact⟨e,he2,h1,h2⟩
 ·rintro⟨e,he,h1,h2⟩
  have:=backE_of hb i o ho e he h1
  refine⟨e,by simpa using he,h1, ?_⟩
  rw [ancAt_take (by omega)];exact h2
theorem ancAt_none{i:Nat}(h:l[i]? =none):apc (ancs l []) i=[]:=by
 have key:∀(l:List Oper) (A:List (List Nat)),(ancs l A).length=A.length+l.length:=by
  intro l
  induction l with
  |nil=>intro A;rfl
  |cons o l ih=>intro A;rw [show ancs (o::l) A=ancs l (A++[ancO A o.after.toList])from rfl,ih];simp;omega
 unfold apc
 have h2:=List.getElem?_eq_none_iff.1 h
 have h3:=key l []
 rw [aap,List.getElem?_eq_none (by simp at h3;omega)]
theorem anc_lt(hb:backE l 0=true):∀(i j:Nat),j∈apc (ancs l []) i→j<i:=by
 intro i
 induction i using Nat.strongRecOn with
 |_ i ih=>
  intro j hj
  cases ho:l[i]? with
  |none=>rw [ancAt_none ho]at hj;cases hj
  |some o=>
   obtain⟨e,he,h1,h2⟩:=(anc_iff hb ho).1 hj
   have h3:=backE_of hb i o ho e he h1
   rcases h2 with rfl|h2
   ·omega
   ·have:=ih e.on (by omega) j h2
    omega
theorem anc_listed{ops:Array Oper}{k:Nat}{listed:Array Bool}(hl:l=ops.toList.take k)(hb:backE l 0=true)(inv:HeadInv .any ops k listed):∀(i:Nat) (o:Oper),l[i]? =some o→(∀e∈o.after,Region.binds .any e=true→listed.getD e.on false=true)→∀j∈apc (ancs l []) i,listed.getD j false=true:=by
 intro i
 induction i using Nat.strongRecOn with
 |_ i ih=>
  intro o ho hall j hj
  obtain⟨e,he,h1,h2⟩:=(anc_iff hb ho).1 hj
  have h3:=backE_of hb i o ho e he h1
  have h4:=hall e he h1
  rcases h2 with rfl|h2
  ·exact h4
  ·have hi:=(List.getElem?_eq_some_iff.1 ho).1
   have hlen:e.on<l.length:=by omega
   obtain⟨o2,ho2⟩:∃o2,l[e.on]? =some o2:=⟨_,List.getElem?_eq_getElem hlen⟩
   have ho3:ops[e.on]? =some o2:=by
    have ho4:=ho2
    rw [hl,List.getElem?_take]at ho4
    split at ho4
    ·simpa using ho4
    ·cases ho4
   exact ih e.on (by omega) _ ho2 (fun e2 he2 hb2=>inv.closed e.on _ ho3 h4 e2 he2 hb2) j h2
end
theorem opndOk_of{A:List (List Nat)}{i:Nat}{rd:List Nat}:∀{l:List Oper} {j0:Nat},opndOk A i rd l j0=true→∀(j:Nat) (o:Oper) (d:Nat),l[j]? =some o→o.dst=some d→d∈rd→i=j0+j∨ordd A i (j0+j)=true
 |[],j0,_,j,o,d,hj=>by simp at hj
 |x::l,j0,h,j,o,d,hj=>by
  have h:=aeo (show(bif _ then opndOk A i rd l (zaA j0)else false)=true from h)
  intro hd hm
  cases j with
  |zero=>
   have hj:x=o:=by simpa using hj
   subst hj
   have h1:=h.1
   rw [hd]at h1
   simp only [agr.2 hm,cond_true]at h1
   cases hb:zai i j0 with
   |true=>exact .inl (zag hb)
   |false=>rw [hb]at h1;exact .inr h1
  |succ j=>
   have:=opndOk_of h.2 j o d (by simpa using hj) hd hm
   rw [show zaA j0+j=j0+(j+1)by omega]at this
   exact this
theorem opndsOk_of{ops:List Oper}{A:List (List Nat)}{all:List Oper}:∀{l:List Oper} {i0:Nat},opndsOk ops A all l i0=true→∀(i:Nat) (o:Oper),l[i]? =some o→opndOk A (i0+i) (opndS o.op.operands.toList++gslot ops o) all 0=true
 |[],i0,_,i,o,hi=>by simp at hi
 |x::l,i0,h,i,o,hi=>by
  have h:=aeo (show(bif _ then opndsOk ops A all l (zaA i0)else false)=true from h)
  cases i with
  |zero=>
   have hi:x=o:=by simpa using hi
   subst hi
   exact h.1
  |succ i=>
   have:=opndsOk_of h.2 i o (by simpa using hi)
   rw [show zaA i0+i=i0+(i+1)by omega]at this
   exact this
theorem memOk1_of{A:List (List Nat)}{i:Nat}{q:Bool×List Nat}:∀{l:List (Bool×List Nat)} {j0:Nat},memOk1 A i q l j0=true→∀(j:Nat) (p:Bool×List Nat),l[j]? =some p→i≠j0+j→ordd A i (j0+j)=false→p.1=true→q.1=false∧∀x∈q.2,x∉p.2
 |[],j0,_,j,p,hj=>by simp at hj
 |x::l,j0,h,j,p,hj=>by
  have h:=aeo (show(bif _ then memOk1 A i q l (zaA j0)else false)=true from h)
  intro hne ho hp
  cases j with
  |zero=>
   have hj:x=p:=by simpa using hj
   subst hj
   have h1:=h.1
   have hb:zai i j0=false:=by rw [beqN];simp;omega
   rw [zaM]at ho
   rw [hb,ho,hp]at h1
   simp only [cond_false,cond_true]at h1
   cases hq:q.1 with
   |true=>rw [hq]at h1;cases h1
   |false=>rw [hq]at h1;exact⟨rfl,disN_iff.1 h1⟩
  |succ j=>
   refine memOk1_of h.2 j p (by simpa using hj) (by omega) ?_ hp
   rw [show zaA j0+j=j0+(j+1)by omega];exact ho
theorem memOk_of{A:List (List Nat)}{all:List (Bool×List Nat)}:∀{l:List (Bool×List Nat)} {i0:Nat},memOk A all l i0=true→∀(i:Nat) (q:Bool×List Nat),l[i]? =some q→memOk1 A (i0+i) q all 0=true
 |[],i0,_,i,q,hi=>by simp at hi
 |x::l,i0,h,i,q,hi=>by
  have h:=aeo (show(bif _ then memOk A all l (zaA i0)else false)=true from h)
  cases i with
  |zero=>
   have hi:x=q:=by simpa using hi
   subst hi
   exact h.1
  |succ i=>
   have:=memOk_of h.2 i q (by simpa using hi)
   rw [show zaA i0+i=i0+(i+1)by omega]at this
   exact this
theorem opsT_path{C:Cx}{ops:List Oper}{ρ':Ty}{κ:St→List (Bool×List Nat)→Option ρ'.T}{r:ρ'.T}:∀(l:List Oper) (i:Nat) (S:St) (tr:List (Bool×List Nat)),opsT C ops l i S tr κ=some r→
  ∃(T:Nat→St) (es:List (Bool×List Nat)),T 0=S∧(∀(j:Nat) (o:Oper),l[j]? =some o→Adv C ops (T j) o (T (j+1))∧es[j]? =some (entry C (T j) (T (j+1)) o))∧κ (T l.length) (tr++es)=some r
 |[],i,S,tr,h=>⟨fun _=>S,[],rfl,fun j o hj=>by simp at hj,by rw [zam];exact h⟩
 |o::l,i,S,tr,h=>by
  obtain⟨S2,h1,h2⟩:=run3_adv (show run3 C ops i S o (fun S2=>opsT C ops l (zaA i) S2 (tr++[entry C S S2 o]) κ)=some r from h)
  obtain⟨T,es,h3,h4,h5⟩:=opsT_path l (zaA i) S2 _ h2
  refine⟨fun j=>match j with
   |0=>S
   |j+1=>T j,entry C S S2 o::es,rfl,fun j o2 hj=> ?_,by rw [zaq]at h5;exact h5⟩
  cases j with
  |zero=>
   have hj:o=o2:=by simpa using hj
   subst hj
   show Adv C ops S o (T 0)∧some (entry C S S2 o)=some (entry C S (T 0) o)
   rw [h3]
   exact⟨h1,rfl⟩
  |succ j=>exact h4 j o2 (by simpa using hj)
theorem lenR_eq:∀l:List Rg,lenR l=l.length
 |[]=>rfl
 |_::l=>by show zaA (lenR l)=_;rw [lenR_eq l];rfl
theorem fsts_mem:∀{mn m:List Rg} {q:Rg},q∈mn→q.1∈fsts mn.length (mn++m)
 |x::mn,m,q,h=>by
  show q.1∈x.1::fsts mn.length (mn++m)
  rcases List.mem_cons.1 h with rfl|h
  ·exact zah
  ·exact zaf _ (fsts_mem h)
section
variable {C : Cx} {md : Md} {w0 : World} {S0 : List Nat} {GS : Glo}
structure Way (C:Cx) (ops:List Oper) (l:List Oper) (T:Nat→St) (es:List (Bool×List Nat)):Prop where
 st:∀(j:Nat) (o:Oper),l[j]? =some o→Adv C ops (T j) o (T (j+1))∧es[j]? =some (entry C (T j) (T (j+1)) o)
 nd:∀(i j:Nat) (o o2:Oper) (t:Nat),l[i]? =some o→l[j]? =some o2→o.dst=some t→o2.dst=some t→i=j
variable {ops l : List Oper} {T : Nat → St} {es : List (Bool × List Nat)}
theorem Way.at(h:Way C ops l T es)(t:Nat):∀i,i≤l.length→(∀(j:Nat) (o:Oper),l[j]? =some o→o.dst=some t→(T i).at t=if j<i then(T (j+1)).at t else(T 0).at t)∧((∀(j:Nat) (o:Oper),l[j]? =some o→o.dst≠some t)→(T i).at t=(T 0).at t)
 |0,_=>⟨fun j o _ _=>by simp,fun _=>rfl⟩
 |i+1,hi=>by
  obtain⟨h1,h2⟩:=h.at t i (by omega)
  have hoi:l[i]? =some (l[i]'(by omega)):=List.getElem?_eq_getElem (by omega)
  have hst:=(adv_fr (h.st i _ hoi).1).1
  refine⟨fun j o hj hd=> ?_,fun hn=> ?_⟩
  ·by_cases hij:j=i
   ·subst hij;rw [if_pos (by omega)]
   ·have hne:(l[i]'(by omega)).dst≠some t:=fun e=>hij (h.nd j i _ _ t hj hoi hd e)
    rw [hst t hne,h1 j o hj hd]
    by_cases hlt:j<i
    ·rw [if_pos hlt,if_pos (by omega)]
    ·rw [if_neg hlt,if_neg (by omega)]
  ·rw [hst t (hn i _ hoi)];exact h2 hn
theorem Way.nb(h:Way C ops l T es):∀i,i≤l.length→(T i).nb=(T 0).nb∧(T i).al=(T 0).al
 |0,_=>⟨rfl,rfl⟩
 |i+1,hi=>by
  have hoi:l[i]? =some (l[i]'(by omega)):=List.getElem?_eq_getElem (by omega)
  obtain⟨_,h1,h2⟩:=adv_fr (h.st i _ hoi).1
  obtain⟨h3,h4⟩:=h.nb i (by omega)
  exact⟨h1.trans h3,h2.trans h4⟩
theorem Way.still(h:Way C ops l T es):∀(d i:Nat),i+d≤l.length→(∀(j:Nat) (o:Oper),i≤j→j<i+d→l[j]? =some o→qt C o.op=true)→(T (i+d)).H=(T i).H∧(T (i+d)).m=(T i).m
 |0,i,_,_=>⟨rfl,rfl⟩
 |d+1,i,hi,hq=>by
  obtain⟨h1,h2⟩:=h.still d i (by omega) (fun j o h1 h2=>hq j o h1 (by omega))
  have hoi:l[i+d]? =some (l[i+d]'(by omega)):=List.getElem?_eq_getElem (by omega)
  obtain⟨h3,h4⟩:=adv_quiet (h.st (i+d) _ hoi).1 (hq _ _ (by omega) (by omega) hoi)
  exact⟨h3.trans h1,h4.trans h2⟩
theorem Way.keep(h:Way C ops l T es){id:Nat}{o2:Ob}:∀(d i:Nat),i+d≤l.length→(∀(j:Nat) (o:Oper) (p:Bool×List Nat),i≤j→j<i+d→l[j]? =some o→es[j]? =some p→p.1=true→id∉p.2)→aiw (T i).H id=some o2→aiw (T (i+d)).H id=some o2
 |0,i,_,_,hg=>hg
 |d+1,i,hi,hq,hg=>by
  have h1:=h.keep d i (by omega) (fun j o p h1 h2=>hq j o p h1 (by omega)) hg
  have hoi:l[i+d]? =some (l[i+d]'(by omega)):=List.getElem?_eq_getElem (by omega)
  obtain⟨h2,h3⟩:=h.st (i+d) _ hoi
  have hp:=hq (i+d) _ _ (by omega) (by omega) hoi h3
  unfold entry at hp
  cases hqq:qt C (l[i+d]'(by omega)).op with
  |true=>
   show aiw (T (i+d+1)).H id=_
   rw [(adv_quiet h2 hqq).1];exact h1
  |false=>
   rw [hqq]at hp
   have hp:=hp rfl
   obtain⟨mn,h4,h5⟩:=adv_chg h2
   refine h5 id o2 (fun q hq e=>hp ?_) h1
   rw [lenR_eq,lenR_eq,h4,zac]
   show id∈fsts (Nat.sub (mn.length+(T (i+d)).m.length) (T (i+d)).m.length) (mn++(T (i+d)).m)
   rw [show Nat.sub (mn.length+(T (i+d)).m.length) (T (i+d)).m.length=mn.length from Nat.add_sub_cancel _ _,←e]
   exact fsts_mem hq
theorem rel_at{ρ:Nat→Ad}{S S2:St}{F:Nat→Value}{w:World}(h:Rel C w0 S0 ρ S F w)(ha:∀t,S2.at t=S.at t)(hH:S2.H=S.H):Rel C w0 S0 ρ S2 F w:=by
 refine⟨?_,fun t v hv=>h.fr t v (by rw [←ha];exact hv),fun t=>by rw [ha,hH];exact h.fo t, ?_, ?_⟩
 ·rw [hH];exact h.gl
 ·rw [hH];exact h.ho
 ·rw [hH];exact h.mem
theorem footV_lt{v:SV}{n id:Nat}(h:v.ok n)(hid:id∈asr v):id<n:=by
 unfold asr at hid
 split at hid
 all_goals first|(cases hid;done)|(have e:=List.mem_singleton.1 hid;subst e;exact h _ (List.mem_singleton.2 rfl))
theorem footO_mem{ev:Operand→SV}{op:Op}{id:Nat}(h:id∈footO ev op):∃x∈op.operands,id∈asr (ev x):=by
 have key:∀l:List Operand,id∈footL ev l→∃x∈l,id∈asr (ev x):=by
  intro l
  induction l with
  |nil=>intro h;cases h
  |cons x l ih=>
   intro h
   rcases List.mem_append.1 (show id∈asr (ev x)++footL ev l from h)with h|h
   ·exact⟨x,zah,h⟩
   ·obtain⟨y,h1,h2⟩:=ih h
    exact⟨y,zaf _ h1,h2⟩
 cases op<;>first|(cases h;done)|skip
 case load t x=>exact⟨x,by simp [zav],h⟩
 case indexAddr t x ix=>exact⟨x,by simp [zav],h⟩
 case convert s t x=>exact⟨x,by simp [zav],h⟩
 case call c=>
  obtain⟨x,h1,h2⟩:=key _ h
  refine⟨x, ?_,h2⟩
  simp only [zav,Call.operands,Array.mem_append]
  exact .inr (by simpa using h1)
theorem min_mem:∀{U:List Nat},U≠[]→∃i∈U,∀j∈U,i≤j
 |[x],_=>⟨x,zah,fun j hj=>by rw [List.mem_singleton.1 hj];exact zap _⟩
 |x::y::U,_=>by
  obtain⟨i,h1,h2⟩:=min_mem (U:=y::U) (by simp)
  by_cases h:x≤i
  ·exact⟨x,zah,fun j hj=>(List.mem_cons.1 hj).elim (fun e=>by rw [e];exact zap _) fun hj=>zaO h (h2 j hj)⟩
  ·exact⟨i,zaf _ h1,fun j hj=>(List.mem_cons.1 hj).elim (fun e=>by rw [e];omega) (h2 j)⟩
theorem ltakeN_eq{α:Type}:∀(l:List α) (k:Nat),aqb l k=l.take k
 |[],k=>by simp [aqb]
 |x::l,0=>rfl
 |x::l,k+1=>by simp [aqb,ltakeN_eq l k]
theorem drawK_shape{ops:Array Oper}:∀{k j:Nat},drawK ops k=some j→apd ops j=true
 |0,j,h=>by
  unfold drawK at h
  have h:=aag h
  cases h.2;exact h.1
 |k+1,j,h=>by
  unfold drawK at h
  have h:=aag h
  have h2:=h.2
  split at h2
  ·rename_i i hi;cases h2;exact drawK_shape hi
  ·cases h2;exact h.1
theorem wrO_nd:∀{l:List Oper},(wrO l).Nodup→∀(i j:Nat) (o o2:Oper) (t:Nat),l[i]? =some o→l[j]? =some o2→o.dst=some t→o2.dst=some t→i=j
 |[],_,i,j,o,o2,t,hi=>by simp at hi
 |x::l,h,i,j,o,o2,t,hi=>by
  intro hj hd hd2
  have hw:∀(i:Nat) (o:Oper),l[i]? =some o→o.dst=some t→t∈wrO l:=by
   intro i o hi hd
   have hm:∀{l:List Oper},o∈l→t∈wrO l:=by
    intro l
    induction l with
    |nil=>intro h;cases h
    |cons y l ih=>
     intro h
     rw [wrO_cons]
     rcases List.mem_cons.1 h with rfl|h
     ·exact .inl hd
     ·exact .inr (ih h)
   exact hm (List.mem_of_getElem? hi)
  have h2:(wrO l).Nodup∧(x.dst=some t→t∉wrO l):=by
   simp only [wrO]at h
   cases hx:x.dst with
   |none=>rw [hx]at h;exact⟨h,fun e=>by cases e⟩
   |some d=>
    rw [hx]at h
    simp only [List.nodup_cons]at h
    exact⟨h.2,fun e=>by cases e;exact h.1⟩
  cases i with
  |zero=>
   have hi:x=o:=by simpa using hi
   subst hi
   cases j with
   |zero=>rfl
   |succ j=>exact absurd (hw j o2 (by simpa using hj) hd2) (h2.2 hd)
  |succ i=>
   cases j with
   |zero=>
    have hj:x=o2:=by simpa using hj
    subst hj
    exact absurd (hw i o (by simpa using hi) hd) (h2.2 hd2)
   |succ j=>
    have:=wrO_nd h2.1 i j o o2 t (by simpa using hi) (by simpa using hj) hd hd2
    omega
end
open Go.Wk
open Go.Ce (Tr)
open Bool renaming and_eq_true → zak
open List renaming eq_nil_of_length_eq_zero → zao, length_take → zaP, mem_append_left → zbc, mem_append_right → zaV, nil_append → zaB, range → zbq, replicate → zbv
open Nat renaming blt → zaW, le_refl → zap, lt_of_lt_of_le → zbl, zero_add → zbb, zero_le → zan
section
variable {C : Cx} {md : Md} {w0 : World} {S0 : List Nat} {GS : Glo}
variable {ops : Array Oper} {l : List Oper} {T : Nat → St} {es : List (Bool × List Nat)} {k : Nat}
structure Mid (C:Cx) (l:List Oper) (T:Nat→St) (listed:Array Bool) (X:St):Prop where
 at1:∀(t j:Nat) (o:Oper),l[j]? =some o→o.dst=some t→X.at t=if listed.getD j false=true then(T (j+1)).at t else(T 0).at t
 at2:∀t,(∀(j:Nat) (o:Oper),l[j]? =some o→o.dst≠some t)→X.at t=(T 0).at t
 nb:X.nb=(T 0).nb
 al:X.al=(T 0).al
 hv:∃h,h≤l.length∧X.H=(T h).H∧X.m=(T h).m∧∀(j:Nat) (o:Oper),l[j]? =some o→qt C o.op=false→(listed.getD j false=true↔j<h)
theorem drawn_mid(hE:Env C md w0 S0 GS)(hmd:md=⟨md.n,[],none⟩)(hl:l=ops.toList.take k)(hk:k≤ops.size)(hsh:apd ops k=true)(hseq:Region.seqB .any ops (ops.size-k) k (zbv k true++zbv (ops.size-k) false).toArray=true)
  (hb:backE l 0=true) (hop:opndsOk ops.toList (ancs l []) l l 0=true) (hW:Way C ops.toList l T es) (hmem:memOk (ancs l []) es es 0=true) {Q:Exit→Act→World→Prop} {ρ0:Nat→Ad} {F0:Nat→Value}
  (hend:∀X ρ F w,Rel C w0 S0 ρ X F w→Nx (T 0) ρ0 X ρ→(∀t,X.at t=(T l.length).at t)→X.H=(T l.length).H→X.nb=(T l.length).nb→X.al=(T l.length).al→X.m=(T l.length).m→(∀t,t∉wrO l→F t=F0 t)→W C.P md ops Q (ops.toList.drop k) F w):
  ∀(f:Nat) (U:List Nat) (listed:Array Bool) (X:St) (ρ:Nat→Ad) (F:Nat→Value) (w:World),U.length=f→U.Nodup→(∀i,i∈U↔i<k∧listed.getD i false=false)→HeadInv .any ops k listed→Mid C l T listed X→Rel C w0 S0 ρ X F w→Nx (T 0) ρ0 X ρ→(∀t,t∉wrO l→F t=F0 t)→
   wpPre C.P .any ops Q (fun _ _ _=>True) k (fun a w=>wpList C.P ops Q (ops.toList.drop k) a w) f listed (fr md F) w:=by
 have hlen:l.length=k:=by rw [hl,zaP,Array.length_toList];exact Nat.min_eq_left hk
 have hget:∀i,i<k→∃o,l[i]? =some o∧ops[i]? =some o:=by
  intro i hi
  have hio:i<ops.size:=zbl hi hk
  refine⟨ops[i], ?_,Array.getElem?_eq_getElem hio⟩
  have e:l[i]? =ops.toList[i]? :=by rw [hl,List.getElem?_take,if_pos hi]
  rw [e,Array.getElem?_toList]
  exact Array.getElem?_eq_getElem hio
 have hWn:∀{F:Nat→Value} {w:World},W C.P md ops Q (ops.toList.drop k) F w→wpList C.P ops Q (ops.toList.drop k) (fr md F) w:=by
  intro F w h
  unfold W WR at h
  rw [hmd]at h
  rw [hmd];exact h
 intro f
 induction f with
 |zero=>
  intro U listed X ρ F w hU hnd hmU inv hM hR hN hF
  have hU0:U=[]:=zao hU
  have hall:∀i,i<k→listed.getD i false=true:=by
   intro i hi
   cases hg:listed.getD i false with
   |true=>rfl
   |false=>have:=(hmU i).2 ⟨hi,hg⟩;rw [hU0]at this;cases this
  have hlist:listed=(zbv k true++zbv (ops.size-k) false).toArray:=by
   apply Array.ext
   ·rw [inv.size];simp;omega
   ·intro i h1 h2
    rw [inv.size]at h1
    by_cases hik:i<k
    ·have:=hall i hik
     have e:listed.getD i false=listed[i]:=by simp [Array.getD,inv.size,h1]
     rw [e]at this
     rw [this]
     simp [List.getElem_append,hik]
    ·have:=inv.tail i (by omega) h1
     have e:listed.getD i true=listed[i]:=by simp [Array.getD,inv.size,h1]
     rw [e]at this
     rw [this]
     simp [List.getElem_append,hik]
  refine⟨by rw [hlist];exact hseq,hWn ?_⟩
  obtain⟨h,h1,h2,h3,h4⟩:=hM.hv
  have hst:=hW.still (l.length-h) h (by omega) (fun j o hj1 hj2 hj=>by
   cases hq:qt C o.op with
   |true=>rfl
   |false=>
    have hjl:=(List.getElem?_eq_some_iff.1 hj).1
    have:=(h4 j o hj hq).1 (hall j (by omega))
    omega)
  rw [show h+(l.length-h)=l.length by omega]at hst
  have hnb:=hW.nb l.length (zap _)
  refine hend X ρ F w hR hN (fun t=> ?_) (h2.trans hst.1.symm) (hM.nb.trans hnb.1.symm) (hM.al.trans hnb.2.symm) (h3.trans hst.2.symm) hF
  obtain⟨h5,h6⟩:=hW.at t l.length (zap _)
  by_cases hw:∃(j:Nat) (o:Oper),l[j]? =some o∧o.dst=some t
  ·obtain⟨j,o,hj,hd⟩:=hw
   have hjl:=(List.getElem?_eq_some_iff.1 hj).1
   rw [hM.at1 t j o hj hd,h5 j o hj hd,if_pos (hall j (by omega)),if_pos hjl]
  ·have hn:∀(j:Nat) (o:Oper),l[j]? =some o→o.dst≠some t:=fun j o hj hd=>hw ⟨j,o,hj,hd⟩
   rw [hM.at2 t hn,h6 hn]
 |succ f ih=>
  intro U listed X ρ F w hU hnd hmU inv hM hR hN hF
  have hUne:U≠[]:=fun e=>by rw [e]at hU;cases hU
  obtain⟨i0,hi0,hmin⟩:=min_mem hUne
  have hi0k:=(hmU i0).1 hi0
  refine⟨fun he=> ?_,fun i hi=> ?_⟩
  ·
   obtain⟨o,ho,ho2⟩:=hget i0 hi0k.1
   have:i0∈Region.ready .any ops listed:=by
    refine mem_ready.2 ⟨getD_in (by rw [inv.size];omega) hi0k.2,o,ho2,fun e he2 hbd=> ?_⟩
    have h1:=backE_of hb i0 o ho e he2 hbd
    cases hg:listed.getD e.on false with
    |true=>rfl
    |false=>
     have h2:=(hmU e.on).2 ⟨by omega,hg⟩
     have:=hmin e.on h2
     omega
   rw [he]at this;cases this
  ·obtain⟨hun,o,ho2,hall⟩:=mem_ready.1 hi
   have hunf:listed.getD i false=false:=getD_both hun
   have hik:i<k:=by
    by_cases hik:i<k
    ·exact hik
    ·exact absurd hi (shape_ready hsh hi0k.1 listed inv (getD_in (by rw [inv.size];omega) hi0k.2) i (by omega))
   refine⟨hik, ?_⟩
   obtain⟨o',ho,ho3⟩:=hget i hik
   rw [ho2]at ho3
   cases ho3
   have hiu:i∈U:=(hmU i).2 ⟨hik,hunf⟩
   obtain⟨hadv,hent⟩:=hW.st i o ho
   have hup:∀j∈apc (ancs l []) i,listed.getD j false=true:=anc_listed hl hb inv i o ho hall
   have hdn:∀(j:Nat),j<k→listed.getD j false=true→i∉apc (ancs l []) j:=by
    intro j hj hlj hm
    obtain⟨oj,hoj,hoj2⟩:=hget j hj
    have:=anc_listed hl hb inv j oj hoj (fun e he hbd=>inv.closed j oj hoj2 hlj e he hbd) i hm
    rw [hunf]at this;cases this
   have hlt:∀j∈apc (ancs l []) i,j<i:=fun j hj=>anc_lt hb i j hj
   have hslot:∀t,t∈opndS o.op.operands.toList++gslot ops.toList o→X.at t=(T i).at t:=by
    intro t ht
    obtain⟨h5,h6⟩:=hW.at t i (by omega)
    by_cases hw:∃(j:Nat) (o:Oper),l[j]? =some o∧o.dst=some t
    ·obtain⟨j,oj,hj,hd⟩:=hw
     have hjl:=(List.getElem?_eq_some_iff.1 hj).1
     rw [hM.at1 t j oj hj hd,h5 j oj hj hd]
     have h7:=opndsOk_of hop i o ho
     rw [zbb]at h7
     have h8:=opndOk_of h7 j oj t hj hd ht
     rw [zbb]at h8
     rcases h8 with rfl|h8
     ·rw [hunf,if_neg (by simp),if_neg (by omega)]
     ·unfold ordd at h8
      cases hm:ask i (apc (ancs l []) j)with
      |true=>
       have hm:=agr.1 hm
       have hij:=anc_lt hb j i hm
       have:listed.getD j false=false:=by
        cases hg:listed.getD j false with
        |false=>rfl
        |true=>exact absurd hm (hdn j (by omega) hg)
       rw [this,if_neg (by simp),if_neg (by omega)]
      |false=>
       rw [hm]at h8
       have hm2:=agr.1 (show ask j (apc (ancs l []) i)=true from h8)
       rw [hup j hm2,if_pos rfl,if_pos (hlt j hm2)]
    ·have hn:∀(j:Nat) (o:Oper),l[j]? =some o→o.dst≠some t:=fun j o hj hd=>hw ⟨j,o,hj,hd⟩
     rw [hM.at2 t hn,h6 hn]
   have hopd:∀t,Operand.tmp t∈o.op.operands→X.at t=(T i).at t:=fun t ht=>hslot t (zbc _ (opndS_mem.2 (by simpa using ht)))
   have hgs:∀t∈gslot ops.toList o,X.at t=(T i).at t:=fun t ht=>hslot t (zaV _ ht)
   obtain⟨h,hh1,hh2,hh3,hh4⟩:=hM.hv
   have hnbi:=hW.nb i (by omega)
   have hbet:∀(j:Nat) (oj:Oper),l[j]? =some oj→qt C oj.op=false→((h≤j∧j<i)∨(i≤j∧j<h))→j≠i→ordd (ancs l []) i j=false:=by
    intro j oj hj hq hcase hji
    have hjl:=(List.getElem?_eq_some_iff.1 hj).1
    unfold ordd
    rcases hcase with⟨h1,h2⟩|⟨h1,h2⟩
    ·have hnl:listed.getD j false=false:=by
      cases hg:listed.getD j false with
      |false=>rfl
      |true=>have:=(hh4 j oj hj hq).1 hg;omega
     have e1:ask i (apc (ancs l []) j)=false:=by
      cases hm:ask i (apc (ancs l []) j)with
      |false=>rfl
      |true=>have:=anc_lt hb j i (agr.1 hm);omega
     have e2:ask j (apc (ancs l []) i)=false:=by
      cases hm:ask j (apc (ancs l []) i)with
      |false=>rfl
      |true=>have:=hup j (agr.1 hm);rw [hnl]at this;cases this
     rw [e1,e2];rfl
    ·have hlj:listed.getD j false=true:=(hh4 j oj hj hq).2 h2
     have e1:ask i (apc (ancs l []) j)=false:=by
      cases hm:ask i (apc (ancs l []) j)with
      |false=>rfl
      |true=>exact absurd (agr.1 hm) (hdn j (by omega) hlj)
     have e2:ask j (apc (ancs l []) i)=false:=by
      cases hm:ask j (apc (ancs l []) i)with
      |false=>rfl
      |true=>have:=hlt j (agr.1 hm);omega
     rw [e1,e2];rfl
   have hmo:∀(j:Nat) (oj:Oper) (p:Bool×List Nat),l[j]? =some oj→es[j]? =some p→p.1=true→j≠i→ordd (ancs l []) i j=false→(entry C (T i) (T (i+1)) o).1=false∧∀x∈(entry C (T i) (T (i+1)) o).2,x∉p.2:=by
    intro j oj p hj hp hp1 hji hord
    have h1:=memOk_of hmem i _ hent
    rw [zbb]at h1
    have h2:=memOk1_of h1 j p hp (by omega) (by rw [zbb];exact hord) hp1
    exact h2
   have hpq:∀(j:Nat) (oj:Oper) (p:Bool×List Nat),l[j]? =some oj→es[j]? =some p→p.1= !(qt C oj.op):=by
    intro j oj p hj hp
    obtain⟨_,h1⟩:=hW.st j oj hj
    rw [hp]at h1
    cases h1
    unfold entry
    cases qt C oj.op<;>rfl
   have hheavy:qt C o.op=false→X.H=(T i).H∧X.m=(T i).m:=by
    intro hq
    have he1:(entry C (T i) (T (i+1)) o).1=true:=by unfold entry;rw [hq];rfl
    have none:∀(j:Nat) (oj:Oper),l[j]? =some oj→((h≤j∧j<i)∨(i<j∧j<h))→qt C oj.op=true:=by
     intro j oj hj hc
     cases hqj:qt C oj.op with
     |true=>rfl
     |false=>
      exfalso
      have hjl:=(List.getElem?_eq_some_iff.1 hj).1
      obtain⟨p,hp⟩:∃p,es[j]? =some p:=⟨_,(hW.st j oj hj).2⟩
      have hji:j≠i:=by omega
      have hord:=hbet j oj hj hqj (by omega) hji
      have:=(hmo j oj p hj hp (by rw [hpq j oj p hj hp,hqj];rfl) hji hord).1
      rw [he1]at this;cases this
    have hih:¬i<h:=fun hlt2=>by
     have:=(hh4 i o ho hq).2 hlt2
     rw [hunf]at this;cases this
    have:=hW.still (i-h) h (by omega) (fun j oj h1 h2 hj=>none j oj hj (.inl ⟨h1,by omega⟩))
    rw [show h+(i-h)=i by omega]at this
    exact⟨hh2.trans this.1.symm,hh3.trans this.2.symm⟩
   have hquiet:qt C o.op=true→Agr (T i).H X.H (footO ((T i).ev C) o.op):=by
    intro hq id hid o2 hg
    have he2:(entry C (T i) (T (i+1)) o).2=footO ((T i).ev C) o.op:=by unfold entry;rw [hq];rfl
    rw [hh2]
    have far:∀(j:Nat) (oj:Oper) (p:Bool×List Nat),((h≤j∧j<i)∨(i≤j∧j<h))→l[j]? =some oj→es[j]? =some p→p.1=true→id∉p.2:=by
     intro j oj p hc hj hp hp1
     have hqj:qt C oj.op=false:=by
      have:=hpq j oj p hj hp
      rw [hp1]at this
      cases hqj:qt C oj.op with
      |false=>rfl
      |true=>rw [hqj]at this;cases this
     have hji:j≠i:=fun e=>by
      subst e
      rw [ho]at hj
      cases hj
      rw [hq]at hqj;cases hqj
     have hord:=hbet j oj hj hqj hc hji
     exact(hmo j oj p hj hp hp1 hji hord).2 id (by rw [he2];exact hid)
    by_cases hhi:h≤i
    ·
     have hlt2:id<(T h).H.length:=by
      obtain⟨x,hx,hfx⟩:=footO_mem hid
      have hev:X.ev C x=(T i).ev C x:=by
       cases x with
       |tmp t=>show(bif zaW t C.nn then X.at t else .u')=(bif zaW t C.nn then(T i).at t else .u');rw [hopd t hx]
       |_=>rfl
      have hok:=(aua hR hE.n x).1
      rw [hev,hh2]at hok
      exact footV_lt hok hfx
     obtain⟨o3,ho3⟩:∃o3,aiw (T h).H id=some o3:=by rw [aap];exact⟨_,List.getElem?_eq_getElem hlt2⟩
     have:=hW.keep (i-h) h (by omega) (fun j oj p h1 h2 hj hp hp1=>far j oj p (.inl ⟨h1,by omega⟩) hj hp hp1) ho3
     rw [show h+(i-h)=i by omega,hg]at this
     rw [ho3,this]
    ·have:=hW.keep (h-i) i (by omega) (fun j oj p h1 h2 hj hp hp1=>far j oj p (.inr ⟨h1,by omega⟩) hj hp hp1) hg
     rw [show i+(h-i)=h by omega]at this
     exact this
   obtain⟨X3,hadv3,hat3,hnb3,hal3,hq3,hh3'⟩:=adv_move hadv hopd hgs (hM.nb.trans hnbi.1.symm) (hM.al.trans hnbi.2.symm) hquiet (fun hq=>(hheavy hq).1)
   have inv':=inv.set hi hik
   have hsize:i<listed.size:=by rw [inv.size];omega
   have hget1:∀j,(listed.setIfInBounds i true).getD j false=if j=i then true else listed.getD j false:=by
    intro j
    simp only [Array.getD_eq_getD_getElem?,Array.getElem?_setIfInBounds]
    by_cases e:i=j
    ·subst e;simp [hsize]
    ·rw [if_neg e,if_neg (fun h=>e h.symm)]
   have hW1:W C.P md ops (Exit.then (fun a' w'=>True∧wpPre C.P .any ops Q (fun _ _ _=>True) k (fun a w=>wpList C.P ops Q (ops.toList.drop k) a w) f (listed.setIfInBounds i true) a' w') Q) [o] F w:=by
    refine adv_step hE hadv3 hR _ [] fun ρ2 F2 w2 hR2 hN2 hf2 _=>w_nil ⟨trivial, ?_⟩
    refine ih (U.erase i) (listed.setIfInBounds i true) X3 ρ2 F2 w2 (by rw [List.length_erase_of_mem hiu,hU];rfl) (hnd.erase i) (fun j=> ?_) inv' ?_ hR2 (hN.trans hN2) (fun t ht=> ?_)
    ·rw [hnd.mem_erase_iff,hmU,hget1]
     constructor
     ·rintro⟨h1,h2,h3⟩;rw [if_neg h1];exact⟨h2,h3⟩
     ·rintro⟨h1,h2⟩
      by_cases e:j=i
      ·rw [if_pos e]at h2;cases h2
      ·rw [if_neg e]at h2;exact⟨e,h1,h2⟩
    ·refine⟨fun t j oj hj hd=> ?_,fun t hn=> ?_,hnb3.trans hnbi.1,hal3.trans hnbi.2, ?_⟩
     ·rw [hat3 t,hget1]
      by_cases e:j=i
      ·subst e
       rw [ho]at hj
       cases hj
       rw [if_pos hd,if_pos rfl,if_pos rfl]
      ·have hne:¬o.dst=some t:=fun e2=>e (hW.nd j i oj o t hj ho hd e2)
       rw [if_neg hne,if_neg e]
       exact hM.at1 t j oj hj hd
     ·rw [hat3 t,if_neg (hn i o ho)];exact hM.at2 t hn
     ·cases hq:qt C o.op with
      |true=>
       obtain⟨h1,h2⟩:=hq3 hq
       refine⟨h,hh1,h1.trans hh2,h2.trans hh3,fun j oj hj hqj=> ?_⟩
       rw [hget1]
       have hji:j≠i:=fun e=>by
        subst e
        rw [ho]at hj
        cases hj
        rw [hq]at hqj;cases hqj
       rw [if_neg hji]
       exact hh4 j oj hj hqj
      |false=>
       obtain⟨h1,h2⟩:=hh3' hq
       obtain⟨mn,h3,_⟩:=adv_chg hadv
       refine⟨i+1,by omega,h1, ?_,fun j oj hj hqj=> ?_⟩
       ·rw [h2 mn h3,(hheavy hq).2,h3]
       ·rw [hget1]
        have hjl:=(List.getElem?_eq_some_iff.1 hj).1
        by_cases hji:j=i
        ·subst hji;simp
        ·rw [if_neg hji,hh4 j oj hj hqj]
         have hih:¬i<h:=fun hlt2=>by
          have:=(hh4 i o ho hq).2 hlt2
          rw [hunf]at this;cases this
         constructor
         ·intro h4;omega
         ·intro h4
          by_cases hjh:j<h
          ·exact hjh
          ·exfalso
           obtain⟨p,hp⟩:∃p,es[j]? =some p:=⟨_,(hW.st j oj hj).2⟩
           have hord:=hbet j oj hj hqj (.inl ⟨by omega,by omega⟩) hji
           have:=(hmo j oj p hj hp (by rw [hpq j oj p hj hp,hqj];rfl) hji hord).1
           unfold entry at this
           rw [hq]at this
           cases this
    ·have hti:o.dst≠some t:=fun e=>ht (by
      have hm:∀{l:List Oper},o∈l→t∈wrO l:=by
       intro l
       induction l with
       |nil=>intro h;cases h
       |cons y l ih=>
        intro h
        rw [wrO_cons]
        rcases List.mem_cons.1 h with rfl|h
        ·exact .inl e
        ·exact .inr (ih h)
      exact hm (List.mem_of_getElem? ho))
     rw [hf2 t hti,hF t ht]
   unfold W WR at hW1
   rw [hmd]at hW1⊢
   refine wpOp_mono ?_ (op_of_list ho2 hW1)
   rintro a' w' ⟨_,h2⟩
   exact⟨trivial,h2⟩
theorem wrO_mem{t:Nat}:∀{l:List Oper},t∈wrO l↔∃o∈l,o.dst=some t
 |[]=>by simp [wrO]
 |x::l=>by rw [wrO_cons,wrO_mem (l:=l)];simp
theorem nx_as{S X Y:St}{ρ ρ2:Nat→Ad}(h:Nx S ρ X ρ2)(hH:Y.H=X.H)(hnb:Y.nb=X.nb)(hal:Y.al=X.al)(hm:Y.m=X.m):Nx S ρ Y ρ2:=
 ⟨⟨hnb.trans h.nb,hal.trans h.al,by rw [hH];exact h.le⟩,by rw [hH,hm];exact h.lg,fun id j hc=>by rw [hm];exact h.mm id j hc⟩
theorem drawn_ok(hE:Env C md w0 S0 GS)(hmd:md=⟨md.n,[],none⟩){id:Nat}{ops:Array Oper}:RegOk C md w0 S0 id ops true:=by
 intro ρ' S κ r ρ F w Q h hS hk
 have h:drawnD C ops S κ=some r:=h
 unfold drawnD at h
 have h:=aag h
 have hm:=h.1
 have h:=h.2
 split at h
 ·rename_i k hkk
  have hsh:=drawK_shape hkk
  have hks:k≤ops.size:=by
   simp only [apd,zak,decide_eq_true_eq]at hsh
   exact hsh.1.2
  have h:=aag h
  have hseq:=h.1
  have h:=aag h.2
  have hb:=h.1
  have h:=aag h.2
  have hnd:=nodN_iff.1 h.1
  have h:=aag h.2
  have hop:=h.1
  obtain⟨T,es,hT0,hst,hfin⟩:=opsT_path _ _ _ _ h.2
  rw [zaB]at hfin
  have hfin:=aag hfin
  have hmem:=hfin.1
  have hfin:=hfin.2
  have hl:aqb ops.toList k=ops.toList.take k:=ltakeN_eq _ _
  have hW:Way C ops.toList (aqb ops.toList k) T es:=⟨hst,wrO_nd hnd⟩
  have hend:∀X ρ2 F2 w2,Rel C w0 S0 ρ2 X F2 w2→Nx (T 0) ρ X ρ2→(∀t,X.at t=(T (aqb ops.toList k).length).at t)→X.H=(T (aqb ops.toList k).length).H→X.nb=(T (aqb ops.toList k).length).nb→X.al=(T (aqb ops.toList k).length).al→X.m=(T (aqb ops.toList k).length).m→(∀t,t∉wrO (aqb ops.toList k)→F2 t=F t)→W C.P md ops Q (ops.toList.drop k) F2 w2:=by
   intro X ρ2 F2 w2 hR hN hat hH hnb hal hm2 hF
   rw [ary]at hfin
   refine opsD_ok hE (ops.toList.drop k) k _ ρ2 F2 w2 rfl hfin (rel_at hR (fun t=>(hat t).symm) hH.symm) fun S2 ρ3 F3 w3 h1 h2 h3 h4 h5=> ?_
   rw [hT0]at hN
   refine hk S2 ρ3 F3 w3 h1 h2 ((nx_as hN hH.symm hnb.symm hal.symm hm2.symm).trans h3) (fun t ht=> ?_) (aoi rfl)
   have e:ops.toList=aqb ops.toList k++ops.toList.drop k:=by rw [hl,List.take_append_drop]
   have hn1:t∉wrO (aqb ops.toList k):=fun hh=>ht (by
    obtain⟨o,ho,hd⟩:=wrO_mem.1 hh
    exact wrO_mem.2 ⟨o,by rw [e];exact zbc _ ho,hd⟩)
   have hn2:t∉wrO (ops.toList.drop k):=fun hh=>ht (by
    obtain⟨o,ho,hd⟩:=wrO_mem.1 hh
    exact wrO_mem.2 ⟨o,List.mem_of_mem_drop ho,hd⟩)
   rw [h4 t hn2,hF t hn1]
  have inv0:HeadInv .any ops k (Array.replicate ops.size false):=
   ⟨by simp,fun j oj _ hl=>(by rw [getD_replicate_false]at hl;cases hl),fun t _ ht=>getD_in (by simpa using ht) (getD_replicate_false _ _)⟩
  have hM0:Mid C (aqb ops.toList k) T (Array.replicate ops.size false) (T 0):=by
   refine⟨fun t j o _ _=> ?_,fun t _=>rfl,rfl,rfl,0,zan _,rfl,rfl,fun j o _ _=> ?_⟩
   ·rw [getD_replicate_false,if_neg (by simp)]
   ·rw [getD_replicate_false];simp
  have hlen:(aqb ops.toList k).length=k:=by rw [hl,zaP,Array.length_toList];exact Nat.min_eq_left hks
  have hpre:∀w',Rel C w0 S0 ρ (T 0) F w'→wpPre C.P .any ops Q (fun _ _ _=>True) k (fun a w=>wpList C.P ops Q (ops.toList.drop k) a w) k (Array.replicate ops.size false) (fr md F) w':=fun w' hR=>
   drawn_mid hE hmd hl hks hsh hseq hb hop hW hmem hend k (zbq k) _ _ _ _ _ List.length_range List.nodup_range (fun i=>by rw [List.mem_range,getD_replicate_false];simp) inv0 hM0 hR Nx.refl (fun _ _=>rfl)
  unfold Go.Wk.C CC
  rw [hmd]
  refine wp_region_any hm ?_
  have hR1:Rel C w0 S0 ρ (T 0) F {w with drawn:=w.drawn+1}:=by
   rw [hT0]
   refine⟨hS.gl,hS.fr,hS.fo,hS.ho, ?_⟩
   obtain⟨L,hH,hM⟩:=hS.mem
   exact⟨L,hH.drewn,hM⟩
  have h1:=hpre _ hR1
  have h2:=pre_any (S:=fun _ _ _=>True) hks (fun a w h=>h) k _ _ _ h1
  rw [show k+(ops.size-k)=ops.size by omega,hmd]at h2
  exact h2
 ·cases h
end
open Go.Wk
open Go.Ce (Tr)
open List renaming append_assoc → zaq, append_nil → zam, drop_zero → zbu, length_append → zac, length_cons → zad, length_nil → zal, map_append → zbf, map_cons → zaG, mem_append_left → zbc, mem_append_right → zaV, mem_cons_of_mem → zaf, mem_cons_self → zah
open Nat renaming add_comm → zaU, add_zero → zaM, eq_of_beq_eq_true → zag, zero_add → zbb
theorem regs_ok{C:Cx}{md:Md}{w0:World}{S0:List Nat}{GS:Glo}(hE:Env C md w0 S0 GS)(hmd:md=⟨md.n,[],none⟩):∀c:Code,RegsOk C md w0 S0 c:=by
 intro c
 induction c with
 |region id ops d=>cases d with
  |false=>exact region_ok hE
  |true=>exact drawn_ok hE hmd
 |seq a b iha ihb=>exact⟨iha,ihb⟩
 |cond c a b iha ihb=>exact⟨iha,ihb⟩
 |block id a ih=>exact ih
 |loop a ih=>exact ih
 |scope a ih=>exact ih
 |_=>trivial
theorem hd1_cn{α:Type}{f:SC→Option α}{l r:List SC}{x:α}{ss:List Src}(h:hd1 f l=some (x,r,ss)):l.length=1+r.length:=by
 obtain⟨c,rfl,_,_⟩:=hd1_some h
 rw [zad,zaU]
theorem rd_cn(any:Bool)(H:List Ob):∀(t:Ty) (s:Nat) (l:List SC) (x:t.T) (r:List SC) (ss:List Src),t.rd any H s l=some (x,r,ss)→l.length=t.cn+r.length:=by
 intro t
 induction t with
 |w' t ih=>intro s l x r ss h;exact ih s l x r ss h
 |pr a b iha ihb=>
  intro s l x r ss h
  simp only [Ty.rd]at h
  split at h
  ·rename_i y1 l1 s1 hp
   split at h
   ·rename_i y2 l2 s2 hq
    cases h
    have h1:=iha s l y1 l1 s1 hp
    have h2:=ihb s l1 y2 _ s2 hq
    show l.length=a.cn+b.cn+r.length
    omega
   ·cases h
  ·cases h
 |i' k=>intro s l x r ss h;exact hd1_cn h
 |c'=>intro s l x r ss h;exact hd1_cn h
 |s'=>intro s l x r ss h;exact hd1_cn h
 |b'=>intro s l x r ss h;exact hd1_cn h
 |u'=>intro s l x r ss h;cases h;exact(zbb _).symm
 |sm a b _ _=>intro s l x r ss h;cases h
 |l' e b t ih=>
  intro s l x r ss h
  simp only [Ty.rd]at h
  split at h
  ·cases h;rw [zad,zaU];rfl
  ·split at h
   ·have h:=(aag (aag h).2).2
    split at h
    ·cases h;rw [zad,zaU];rfl
    ·cases h
   ·cases h
  ·split at h
   ·have h:=(aag (aag (aag h).2).2).2
    split at h
    ·cases h;rw [zad,zaU];rfl
    ·cases h
   ·cases h
  ·cases h
 |y'=>
  intro s l x r ss h
  simp only [Ty.rd]at h
  split at h
  ·split at h
   ·cases h;rw [zad,zaU];rfl
   ·cases h
  ·cases h
 |r' t ih=>
  intro s l x r ss h
  simp only [Ty.rd]at h
  split at h
  ·cases h;rw [zad,zaU];rfl
  ·split at h
   ·cases h;rw [zad,zaU];rfl
   ·cases h
  ·split at h
   ·split at h
    ·cases h;rw [zad,zaU];rfl
    ·cases h
   ·cases h
  ·cases h
 |p' e t ih=>
  intro s l x r ss h
  simp only [Ty.rd]at h
  split at h
  ·split at h
   ·have h:=(aag (aag h).2).2
    split at h
    ·cases h;rw [zad,zaU];rfl
    ·cases h
   ·cases h
  ·cases h
 |z'=>
  intro s l x r ss h
  simp only [Ty.rd]at h
  split at h
  ·have h:=(aag h).2
   cases h;rw [zad,zaU];rfl
  ·have h:=(aag (aag h).2).2
   cases h;rw [zad,zaU];rfl
  ·have h:=(aag h).2
   split at h
   ·cases h;rw [zad,zaU];rfl
   ·cases h
  ·cases h
 |o' j=>
  intro s l x r ss h
  simp only [Ty.rd]at h
  split at h
  ·have h:=(aag h).2
   cases h;rw [zad,zaU];rfl
  ·cases h
 |f' k t ih=>
  intro s l x r ss h
  simp only [Ty.rd]at h
  split at h
  ·have h:=(aag h).2
   split at h
   ·cases h;rw [zad,zaU];rfl
   ·cases h
  ·cases h
theorem putC_full:∀{l vs:List SC},vs.length=l.length→putC l 0 vs=some vs
 |[],[],_=>rfl
 |[],_::_,h=>by cases h
 |_::_,[],h=>by cases h
 |x::l,v::vs,h=>by
  simp only [putC,putC_full (l:=l) (vs:=vs) (by simpa using h)]
theorem ltake_all{α:Type}:∀(l:List α),ltake l l.length=some l
 |[]=>rfl
 |x::l=>by simp only [zad,ltake,ltake_all l]
def KR(n0:Nat)(H0 H1:List Ob)(E:List Nat)(al:List Rg):Rk→Prop
 |.r' _=>True
 |.o' id _ x=>id<n0∧(∀j,j<x.cn→cov id j al=true)∧∃e1 cs1,H1[id]? =some (.bl e1 cs1)
 |.w' id _=>id<n0∧cov id 0 al=true∧id∉E∧ank H0[id]? =true
section
variable {n0 : Nat} {H2 H0 H1 : List Ob} {ρ ρ2 ρ3 : Nat → Ad} {F2 : Nat → Value} {E : List Nat} {al : List Rg} {Fm : Tr SV} {done : List Src}
theorem PI.stepR(h:PI n0 H2 ρ ρ2 ρ3 F2 E H0 al Fm H1 done)(hln:Lns ρ2 H2)(hbr:Brk H2)(hn0:H0.length≤n0)(hup:Up n0 ρ2 ρ3){q:Rk}{v:q.ty.T}{vs vs2:List SV}{sk:List Src}(hr:q.rd H2 vs=some (v,sk,vs2))(hk:KR n0 H0 H1 E al q)
  (had:∀(j:Nat) (s:Src),sk[j]? =some s→ρ3 (H1.length+j)=s.ad ρ2) (l:List SA):PI n0 H2 ρ ρ2 ρ3 F2 E H0 al Fm (q.put (fun j=>j) (l,H1) v).2 (done++sk)∧
   ∃us:List Value,vs.map (SV.v ρ2)=us.map some++vs2.map (SV.v ρ2)∧(q.put (fun j=>j) (l,H1) v).1.map (SA.v ρ3)=l.map (SA.v ρ3)++us:=by
 cases q with
 |r' x=>
  cases vs with
  |nil=>cases hr
  |cons v0 vs=>
   simp only [Rk.rd]at hr
   split at hr
   ·rename_i y ss hy
    cases hr
    have hv:=rdV_ok hbr hy
    obtain⟨⟨u,h1,_,h2⟩,h3⟩:=hv.to ρ2 ρ3 H1.length had
    have hl:sk.length=(x.lay 0 H1.length v).2.length:=by rw [hv.no];exact(Ty.lay_no x 0 H1.length v).symm
    refine⟨h.app hln hbr hn0 hl had h3 (atr x 0 H1.length v),[u],by rw [zaG,h1];rfl, ?_⟩
    show(l++[x.sa (x.lay 0 H1.length v).1]).map _=_
    rw [zbf,List.map_singleton,h2]
   ·cases hr
 |o' id e x=>
  simp only [Rk.rd]at hr
  split at hr
  ·rename_i y ss hy
   cases hr
   obtain⟨h1,h2,e1,cs1,h3⟩:=hk
   unfold rdO at hy
   split at hy
   ·rename_i ee cs hb
    have hy:=aag hy
    have hee:=zag hy.1
    subst hee
    have hcn:=rd_cn false H2 x id cs _ _ _ (fulL_some hy.2)
    rw [zal,zaM]at hcn
    have hrb:rdB H2 id 0 x=some (v,sk):=by
     unfold rdB
     rw [hb]
     simp only [ary,zbu]
     rw [←hcn,ltake_all]
     exact hy.2
    have hP:=h.stepO hln hbr hn0 hup hrb h1 (fun j _ hj=>h2 j (by omega)) had
    rw [aap]at hb
    obtain⟨cs2,h4,h5,_⟩:=h.ba id _ h1 h3
    rw [hb]at h4
    cases h4
    have hpb:putB H1 id 0 x v=apb H1 id (.bl e1 (x.lay id H1.length v).1)++(x.lay id H1.length v).2:=by
     unfold putB
     rw [aap,h3]
     simp only [putD]
     rw [putC_full ((Ty.lay_len x id H1.length v).trans (by omega))]
    rw [hpb]at hP
    exact⟨hP,[],rfl,by rw [zam];rfl⟩
   ·cases hy
  ·cases hr
 |w' id x=>
  simp only [Rk.rd]at hr
  split at hr
  ·rename_i y ss hy
   cases hr
   exact⟨h.stepW hln hbr hn0 hup hy hk.1 hk.2.1 hk.2.2.1 hk.2.2.2,[],rfl,by rw [zam];rfl⟩
  ·cases hr
theorem put_get{q:Rk}{v:q.ty.T}{l:List SA}{H1:List Ob}{id:Nat}{o:Ob}(h:id∉Rk.ids [q])(ho:H1[id]? =some o):(q.put (fun j=>j) (l,H1) v).2[id]? =some o:=by
 cases q with
 |r' x=>exact appL_get ho
 |o' j e x=>exact appL_get (by rw [asl (fun e=>h (by rw [←e];exact List.mem_singleton.2 rfl))];exact ho)
 |w' j x=>
  show(putW H1 j x v)[id]? =some o
  unfold putW
  split
  ·rw [asl (fun e=>h (by rw [←e];exact List.mem_singleton.2 rfl))];exact ho
  ·exact ho
theorem ids_cons{q:Rk}{r:List Rk}:Rk.ids (q::r)=Rk.ids [q]++Rk.ids r:=by cases q<;>rfl
theorem ids_mem{r:List Rk}{q:Rk}(h:q∈r){id:Nat}(hid:id∈Rk.ids [q]):id∈Rk.ids r:=by
 induction r with
 |nil=>cases h
 |cons x r ih=>
  rw [ids_cons]
  rcases List.mem_cons.1 h with rfl|h
  ·exact zbc _ hid
  ·exact zaV _ (ih h)
theorem PI.stepsR(hln:Lns ρ2 H2)(hbr:Brk H2)(hn0:H0.length≤n0)(hup:Up n0 ρ2 ρ3):∀(r:List Rk) (H1:List Ob) (done:List Src) (y:(resT r).T) (ss:List Src) (vs:List SV) (l:List SA),PI n0 H2 ρ ρ2 ρ3 F2 E H0 al Fm H1 done→rdR H2 r vs=some (y,ss)→(Rk.ids r).Nodup→
  (∀q∈r,KR n0 H0 H1 E al q)→(∀(j:Nat) (s:Src),ss[j]? =some s→ρ3 (H1.length+j)=s.ad ρ2)→PI n0 H2 ρ ρ2 ρ3 F2 E H0 al Fm (putR (fun j=>j) (l,H1) r y).2 (done++ss)∧
   ∃us:List Value,vs.map (SV.v ρ2)=us.map some∧(putR (fun j=>j) (l,H1) r y).1.map (SA.v ρ3)=l.map (SA.v ρ3)++us
 |[],H1,done,y,ss,vs,l,h,hr,_,_,_=>by
  cases vs with
  |nil=>cases hr;exact⟨by rw [zam];exact h,[],rfl,by rw [zam];rfl⟩
  |cons _ _=>cases hr
 |[q],H1,done,y,ss,vs,l,h,hr,_,hk,had=>by
  simp only [rdR]at hr
  split at hr
  ·rename_i x s1 hx
   cases hr
   obtain⟨h1,us,h2,h3⟩:=h.stepR hln hbr hn0 hup hx (hk q zah) had l
   exact⟨h1,us,by rw [h2,List.map_nil,zam],h3⟩
  ·cases hr
 |q::q2::r,H1,done,y,ss,vs,l,h,hr,hnd,hk,had=>by
  simp only [rdR]at hr
  split at hr
  ·rename_i x s1 vs2 hx
   split at hr
   ·rename_i z s2 hz
    cases hr
    obtain⟨h1,us,h2,h3⟩:=h.stepR hln hbr hn0 hup hx (hk q zah) (fun j s hj=>had j s (by rw [List.getElem?_append_left (List.getElem?_eq_some_iff.1 hj).1];exact hj)) l
    have e1:=h1.len
    have e2:=h.len
    rw [zac]at e1
    rw [ids_cons]at hnd
    obtain⟨hnd1,hnd2,hnd3⟩:=List.nodup_append.1 hnd
    obtain⟨h4,us2,h5,h6⟩:=PI.stepsR hln hbr hn0 hup (q2::r) _ _ z s2 vs2 (q.put (fun j=>j) (l,H1) x).1 h1 hz hnd2 (fun q3 hq3=>by
     have h7:=hk q3 (zaf _ hq3)
     cases q3 with
     |r' x=>trivial
     |o' id e x=>
      obtain⟨h8,h9,e3,cs3,h10⟩:=h7
      refine⟨h8,h9,e3,cs3,put_get (fun hh=> ?_) h10⟩
      exact hnd3 _ hh _ (ids_mem hq3 (List.mem_singleton.2 rfl)) rfl
     |w' id x=>exact h7) (fun j s hj=>by
     rw [show(q.put (fun j=>j) (l,H1) x).2.length+j=H1.length+(s1.length+j)by omega]
     exact had _ s (by rw [List.getElem?_append_right (by omega),←hj];congr 1;omega))
    rw [zaq]at h4
    exact⟨h4,us++us2,by rw [h2,h5,zbf],by
     show(putR (fun j=>j) (q.put (fun j=>j) (l,H1) x) (q2::r) z).1.map _=_
     rw [h6,h3,zaq]⟩
   ·cases hr
  ·cases hr
end
theorem wPut_row{m:Nat}:∀{x:Ty} {v:x.T},isRowT x=true→∃o,wPut m x v=some o:=by
 intro x
 cases x<;>intro v h<;>first|exact⟨_,rfl⟩|cases h
theorem putR_same:∀(r:List Rk) (y:(resT r).T) (l:List SA) (Hx Hy:List Ob),Hx.length=Hy.length→(∀id,lenH Hx id=lenH Hy id)→(∀id,id∉Rk.ids r→Hx[id]? =Hy[id]?)→(∀q∈r,∀id x,q=.w' id x→isRowT x=true)→
  putR (fun j=>j) (l,Hx) r y=putR (fun j=>j) (l,Hy) r y:=by
 have lenE:∀{Hx Hy:List Ob} {id:Nat} {o:Ob},Hx.length=Hy.length→(∀id,lenH Hx id=lenH Hy id)→∀k,lenH (apb Hx id o) k=lenH (apb Hy id o) k:=by
  intro Hx Hy id o hl hn k
  rw [aqn,aqn,ach,ach,hl]
  split
  ·rfl
  ·rw [←aqn,←aqn];exact hn k
 have appE:∀{Hx Hy B:List Ob},Hx.length=Hy.length→(∀id,lenH Hx id=lenH Hy id)→∀k,lenH (Hx++B) k=lenH (Hy++B) k:=by
  intro Hx Hy B hl hn k
  rw [aqn,aqn]
  by_cases hk:k<Hx.length
  ·rw [List.getElem?_append_left hk,List.getElem?_append_left (by omega),←aqn,←aqn];exact hn k
  ·rw [List.getElem?_append_right (by omega),List.getElem?_append_right (by omega),hl]
 have getE:∀{Hx Hy B:List Ob} {k:Nat},Hx.length=Hy.length→Hx[k]? =Hy[k]? →(Hx++B)[k]? =(Hy++B)[k]? :=by
  intro Hx Hy B k hl hg
  by_cases hk:k<Hx.length
  ·rw [List.getElem?_append_left hk,List.getElem?_append_left (by omega)];exact hg
  ·rw [List.getElem?_append_right (by omega),List.getElem?_append_right (by omega),hl]
 have one:∀(q:Rk) (v:q.ty.T) (l:List SA) (Hx Hy:List Ob) (N:List Nat),Hx.length=Hy.length→(∀id,lenH Hx id=lenH Hy id)→(∀id,id∉Rk.ids [q]→id∉N→Hx[id]? =Hy[id]?)→(∀id x,q=.w' id x→isRowT x=true)→
   (q.put (fun j=>j) (l,Hx) v).1=(q.put (fun j=>j) (l,Hy) v).1∧(q.put (fun j=>j) (l,Hx) v).2.length=(q.put (fun j=>j) (l,Hy) v).2.length∧(∀id,lenH (q.put (fun j=>j) (l,Hx) v).2 id=lenH (q.put (fun j=>j) (l,Hy) v).2 id)∧∀id,id∉N→(q.put (fun j=>j) (l,Hx) v).2[id]? =(q.put (fun j=>j) (l,Hy) v).2[id]? :=by
  intro q v l Hx Hy N hl hn hg hw
  cases q with
  |r' x=>
   show l++[x.sa (x.lay 0 Hx.length v).1]=l++[x.sa (x.lay 0 Hy.length v).1]∧(Hx++(x.lay 0 Hx.length v).2).length=(Hy++(x.lay 0 Hy.length v).2).length∧(∀id,lenH (Hx++(x.lay 0 Hx.length v).2) id=lenH (Hy++(x.lay 0 Hy.length v).2) id)∧∀id,id∉N→(Hx++(x.lay 0 Hx.length v).2)[id]? =(Hy++(x.lay 0 Hy.length v).2)[id]?
   rw [hl]
   exact⟨rfl,by simp [hl],appE hl hn,fun id hid=>getE hl (hg id (fun h=>by cases h) hid)⟩
  |o' i e x=>
   show l=l∧(apb Hx i (.bl e (x.lay i Hx.length v).1)++(x.lay i Hx.length v).2).length=(apb Hy i (.bl e (x.lay i Hy.length v).1)++(x.lay i Hy.length v).2).length∧(∀id,lenH (apb Hx i (.bl e (x.lay i Hx.length v).1)++(x.lay i Hx.length v).2) id=lenH (apb Hy i (.bl e (x.lay i Hy.length v).1)++(x.lay i Hy.length v).2) id)∧∀id,id∉N→(apb Hx i (.bl e (x.lay i Hx.length v).1)++(x.lay i Hx.length v).2)[id]? =(apb Hy i (.bl e (x.lay i Hy.length v).1)++(x.lay i Hy.length v).2)[id]?
   rw [hl]
   have hl2:∀o:Ob,(apb Hx i o).length=(apb Hy i o).length:=fun o=>by rw [ale,ale,hl]
   refine⟨rfl,by simp [hl2],appE (hl2 _) (lenE hl hn),fun id hid=>getE (hl2 _) ?_⟩
   rw [ach,ach,hl]
   by_cases hi:id=i
   ·subst hi
    by_cases hlt:id<Hy.length
    ·rw [if_pos ⟨rfl,hlt⟩,if_pos ⟨rfl,hlt⟩]
    ·rw [if_neg (fun h=>hlt h.2),if_neg (fun h=>hlt h.2),List.getElem?_eq_none (by omega),List.getElem?_eq_none (by omega)]
   ·rw [if_neg (fun h=>hi h.1),if_neg (fun h=>hi h.1)]
    exact hg id (fun h=>hi (List.mem_singleton.1 h)) hid
  |w' i x=>
   show l=l∧(putW Hx i x v).length=(putW Hy i x v).length∧(∀id,lenH (putW Hx i x v) id=lenH (putW Hy i x v) id)∧∀id,id∉N→(putW Hx i x v)[id]? =(putW Hy i x v)[id]?
   have hx:=hw i x rfl
   unfold putW
   rw [hn i]
   split
   ·rename_i o ho
    refine⟨rfl,by rw [ale,ale,hl],lenE hl hn,fun id hid=> ?_⟩
    rw [ach,ach,hl]
    by_cases hi:id=i
    ·subst hi
     by_cases hlt:id<Hy.length
     ·rw [if_pos ⟨rfl,hlt⟩,if_pos ⟨rfl,hlt⟩]
     ·rw [if_neg (fun h=>hlt h.2),if_neg (fun h=>hlt h.2),List.getElem?_eq_none (by omega),List.getElem?_eq_none (by omega)]
    ·rw [if_neg (fun h=>hi h.1),if_neg (fun h=>hi h.1)]
     exact hg id (fun h=>hi (List.mem_singleton.1 h)) hid
   ·rename_i hno
    exfalso
    obtain⟨o,ho⟩:=wPut_row (m:=lenH Hy i) (x:=x) (v:=v) hx
    have hno2:=hno.symm.trans ho
    cases hno2
 intro r
 induction r with
 |nil=>
  intro y l Hx Hy hl hn hg _
  have e:Hx=Hy:=List.ext_getElem? fun k=>hg k (fun h=>by cases h)
  rw [e]
 |cons q r ih=>
  intro y l Hx Hy hl hn hg hw
  cases r with
  |nil=>
   obtain⟨h1,h2,h3,h4⟩:=one q y l Hx Hy [] hl hn (fun id h _=>hg id h) (hw q zah)
   have e:(q.put (fun j=>j) (l,Hx) y).2=(q.put (fun j=>j) (l,Hy) y).2:=List.ext_getElem? fun k=>h4 k (fun h=>by cases h)
   exact Prod.ext h1 e
  |cons q2 r=>
   obtain⟨h1,h2,h3,h4⟩:=one q y.1 l Hx Hy (Rk.ids (q2::r)) hl hn (fun id h h2=>hg id (by rw [ids_cons];exact fun hh=>(List.mem_append.1 hh).elim h h2)) (hw q zah)
   have:=ih y.2 (q.put (fun j=>j) (l,Hx) y.1).1 (q.put (fun j=>j) (l,Hx) y.1).2 (q.put (fun j=>j) (l,Hy) y.1).2 h2 h3 h4 (fun q3 h5=>hw q3 (zaf _ h5))
   show putR (fun j=>j) (q.put (fun j=>j) (l,Hx) y.1) (q2::r) y.2=putR (fun j=>j) (q.put (fun j=>j) (l,Hy) y.1) (q2::r) y.2
   have e1:q.put (fun j=>j) (l,Hx) y.1=((q.put (fun j=>j) (l,Hx) y.1).1,(q.put (fun j=>j) (l,Hx) y.1).2):=rfl
   have e2:q.put (fun j=>j) (l,Hy) y.1=((q.put (fun j=>j) (l,Hx) y.1).1,(q.put (fun j=>j) (l,Hy) y.1).2):=by rw [h1]
   rw [e1,e2];exact this
open Go.Wk
open Go.Ce (Tr)
open List renaming append_assoc → zaq, length_append → zac, length_cons → zad, mem_cons_of_mem → zaf, mem_cons_self → zah, nil_append → zaB
open Nat renaming add_assoc → zaK, eq_of_beq_eq_true → zag, le_refl → zap, one_pos → zbo, zero_le → zan
theorem layA_ok:∀(a:List Ty) (H0:List Ob) (x:(tupT a).T),noTz a=true→∃obs,(apn H0 a x).2=H0++obs∧(apn H0 a x).1.length=a.length∧(∀v∈(apn H0 a x).1,v.ok (H0.length+obs.length))∧∀(j e:Nat) (cs:List SC),obs[j]? =some (.bl e cs)→∀c∈cs,c.ok (H0.length+obs.length)
 |[],H0,x,h=>⟨[],by simp [apn],rfl,fun v hv=>by simp [apn]at hv,fun j e cs hj=>by simp at hj⟩
 |[t],H0,x,h=>by
  have ht:t.tz=false:=by
   simp only [noTz]at h
   cases hz:t.tz with
   |true=>rw [hz]at h;cases h
   |false=>rfl
  refine⟨(t.lay 0 H0.length x).2,rfl,rfl,fun v hm=> ?_,atr t 0 H0.length x⟩
  rw [List.mem_singleton.1 (show v∈[t.sv (t.lay 0 H0.length x).1]from hm)]
  exact Ty.sv_ok (asz t 0 H0.length x ht)
 |t::t2::a,H0,x,h=>by
  have ht:t.tz=false∧noTz (t2::a)=true:=by
   have h:(bif t.tz then false else noTz (t2::a))=true:=h
   cases hz:t.tz with
   |true=>rw [hz]at h;cases h
   |false=>rw [hz]at h;exact⟨rfl,h⟩
  obtain⟨obs,h1,h2,h3,h4⟩:=layA_ok (t2::a) (H0++(t.lay 0 H0.length x.1).2) x.2 ht.2
  have hl2:(H0++(t.lay 0 H0.length x.1).2).length=H0.length+(t.lay 0 H0.length x.1).2.length:=zac
  refine⟨(t.lay 0 H0.length x.1).2++obs,by rw [←zaq];exact h1,by
   show(_::(apn (H0++(t.lay 0 H0.length x.1).2) (t2::a) x.2).1).length=_
   rw [zad,h2];rfl,fun v hm=> ?_,fun j e cs hj c hc=> ?_⟩
  ·rw [zac,←zaK,←hl2]
   rcases List.mem_cons.1 (show v∈t.sv (t.lay 0 H0.length x.1).1::(apn (H0++(t.lay 0 H0.length x.1).2) (t2::a) x.2).1 from hm)with rfl|hm
   ·exact SV.ok_mono (Ty.sv_ok (asz t 0 H0.length x.1 ht.1)) (by omega)
   ·exact h3 v hm
  ·rw [zac,←zaK,←hl2]
   by_cases hlt:j<(t.lay 0 H0.length x.1).2.length
   ·rw [List.getElem?_append_left hlt]at hj
    exact SC.ok_mono (atr t 0 H0.length x.1 j e cs hj c hc) (by omega)
   ·rw [List.getElem?_append_right (by omega)]at hj
    exact h4 _ e cs hj c hc
def noA:List Ty→Nat
 |[]=>0
 |t::a=>t.no+noA a
theorem layA_no:∀(a:List Ty) (H0:List Ob) (x:(tupT a).T),(apn H0 a x).2.length=H0.length+noA a
 |[],H0,x=>rfl
 |[t],H0,x=>by
  show(H0++(t.lay 0 H0.length x).2).length=_
  rw [zac]
  have:=Ty.lay_no t 0 H0.length x
  show _=H0.length+(t.no+0)
  omega
 |t::t2::a,H0,x=>by
  show(apn (H0++(t.lay 0 H0.length x.1).2) (t2::a) x.2).2.length=_
  rw [layA_no (t2::a),zac,Ty.lay_no]
  show _=H0.length+(t.no+noA (t2::a))
  omega
theorem setL_get:∀(vs:List SV) (F:Tr SV) (i t:Nat),gtF (setL F i vs) t=if i≤t∧t<i+vs.length then vs.getD (t-i) .u' else gtF F t
 |[],F,i,t=>by
  rw [if_neg (by simp)];rfl
 |v::vs,F,i,t=>by
  show gtF (setL (F.set i v) (i+1) vs) t=_
  rw [setL_get vs,gtF_set,zad]
  by_cases h1:t=i
  ·subst h1
   rw [if_neg (by omega),if_pos rfl,if_pos (by omega),Nat.sub_self];rfl
  ·by_cases h2:i+1≤t∧t<i+1+vs.length
   ·rw [if_pos h2,if_pos (by omega),show t-i=(t-(i+1))+1 by omega];rfl
   ·rw [if_neg h2,if_neg h1,if_neg (by omega)]
theorem alOf_cov{r:List Rk}{H0:List Ob}{id j:Nat}:∀{l:List Ob} {i:Nat},cov id j (alOf r H0 l i)=true→∃o,i≤id∧l[id-i]? =some o∧((ank (some o)=true∧j=0)∨(ank (some o)=false∧id∈Rk.ids r∧j<(cellsO H0 id).2.2))
 |[],i,h=>by simp [alOf,cov]at h
 |o::l,i,h=>by
  simp only [alOf]at h
  rcases afv.1 h with h|h
  ·cases hr:ank (some o)with
   |true=>
    rw [hr]at h
    obtain⟨q,hq,h1,h2,h3⟩:=adm.1 h
    have hq:=List.mem_singleton.1 hq
    subst hq
    have h1:i=id:=h1
    subst h1
    exact⟨o,zap _,by simp,.inl ⟨hr,by have h3:j<1:=h3;omega⟩⟩
   |false=>
    rw [hr]at h
    cases hm:ask i (Rk.ids r)with
    |false=>rw [hm]at h;simp [cov]at h
    |true=>
     rw [hm]at h
     obtain⟨q,hq,h1,h2,h3⟩:=adm.1 h
     have hq:=List.mem_singleton.1 hq
     subst hq
     have h1:i=id:=h1
     subst h1
     exact⟨o,zap _,by simp,.inr ⟨hr,agr.1 hm,h3⟩⟩
  ·obtain⟨o2,h1,h2,h3⟩:=alOf_cov h
   refine⟨o2,by omega, ?_,h3⟩
   rw [show id-i=(id-(i+1))+1 by omega,List.getElem?_cons_succ];exact h2
theorem arx{H:List Ob}:∀{r:List Rk},outsK H r=true→∀q∈r,match q with
  |.r' _=>True
  |.o' id e x=>∃cs,H[id]? =some (.bl e cs)∧cs.length=x.cn
  |.w' id x=>ank H[id]? =true∧isRowT x=true
 |q0::r,h,q,hq=>by
  have h:=aeo (show(bif _ then outsK H r else false)=true from h)
  rcases List.mem_cons.1 hq with rfl|hq
  ·cases q with
   |r' x=>trivial
   |o' id e x=>
    have h1:=h.1
    simp only [aap]at h1
    split at h1
    ·rename_i e2 cs hb
     have h1:=aeo h1
     rw [zag h1.1]at hb
     exact⟨cs,hb,zag h1.2⟩
    ·cases h1
   |w' id x=>
    have h1:=aeo h.1
    rw [aap]at h1
    exact h1
  ·exact arx h.2 q hq
def rgO:List Rk→List Rg
 |[]=>[]
 |k::l=>match k with
  |.r' _=>rgO l
  |.o' id _ x=>(id,0,x.cn)::rgO l
  |.w' id _=>(id,0,1)::rgO l
theorem rgO_of:∀{r:List Rk} {q:Rg},q∈rgO r→(∃id e x,Rk.o' id e x∈r∧q=(id,0,x.cn))∨∃id x,Rk.w' id x∈r∧q=(id,0,1)
 |k::r,q,h=>by
  cases k with
  |r' x=>
   rcases rgO_of (show q∈rgO r from h)with⟨id,e,x,h1,h2⟩|⟨id,x,h1,h2⟩
   ·exact .inl ⟨id,e,x,zaf _ h1,h2⟩
   ·exact .inr ⟨id,x,zaf _ h1,h2⟩
  |o' i e x=>
   rcases List.mem_cons.1 (show q∈(i,0,x.cn)::rgO r from h)with rfl|h
   ·exact .inl ⟨i,e,x,zah,rfl⟩
   ·rcases rgO_of h with⟨id,e,x,h1,h2⟩|⟨id,x,h1,h2⟩
    ·exact .inl ⟨id,e,x,zaf _ h1,h2⟩
    ·exact .inr ⟨id,x,zaf _ h1,h2⟩
  |w' i x=>
   rcases List.mem_cons.1 (show q∈(i,0,1)::rgO r from h)with rfl|h
   ·exact .inr ⟨i,x,zah,rfl⟩
   ·rcases rgO_of h with⟨id,e,x,h1,h2⟩|⟨id,x,h1,h2⟩
    ·exact .inl ⟨id,e,x,zaf _ h1,h2⟩
    ·exact .inr ⟨id,x,zaf _ h1,h2⟩
theorem rgO_o{id e:Nat}{x:Ty}:∀{r:List Rk},Rk.o' id e x∈r→(id,0,x.cn)∈rgO r
 |k::r,h=>by
  rcases List.mem_cons.1 h with rfl|h2
  ·exact zah
  ·cases k with
   |r' _=>exact(show _∈rgO r from rgO_o h2)
   |o' _ _ _=>exact zaf _ (rgO_o h2)
   |w' _ _=>exact zaf _ (rgO_o h2)
theorem rgO_w{id:Nat}{x:Ty}:∀{r:List Rk},Rk.w' id x∈r→(id,0,1)∈rgO r
 |k::r,h=>by
  rcases List.mem_cons.1 h with rfl|h2
  ·exact zah
  ·cases k with
   |r' _=>exact(show _∈rgO r from rgO_w h2)
   |o' _ _ _=>exact zaf _ (rgO_w h2)
   |w' _ _=>exact zaf _ (rgO_w h2)
theorem ids_of{id:Nat}:∀{r:List Rk},id∈Rk.ids r→(∃e x,Rk.o' id e x∈r)∨∃x,Rk.w' id x∈r
 |k::r,h=>by
  cases k with
  |r' x=>
   rcases ids_of (show id∈Rk.ids r from h)with⟨e,x,h1⟩|⟨x,h1⟩
   ·exact .inl ⟨e,x,zaf _ h1⟩
   ·exact .inr ⟨x,zaf _ h1⟩
  |o' i e x=>
   rcases List.mem_cons.1 (show id∈i::Rk.ids r from h)with rfl|h
   ·exact .inl ⟨e,x,zah⟩
   ·rcases ids_of h with⟨e,x,h1⟩|⟨x,h1⟩
    ·exact .inl ⟨e,x,zaf _ h1⟩
    ·exact .inr ⟨x,zaf _ h1⟩
  |w' i x=>
   rcases List.mem_cons.1 (show id∈i::Rk.ids r from h)with rfl|h
   ·exact .inr ⟨x,zah⟩
   ·rcases ids_of h with⟨e,x,h1⟩|⟨x,h1⟩
    ·exact .inl ⟨e,x,zaf _ h1⟩
    ·exact .inr ⟨x,zaf _ h1⟩
section
variable {C : Cx} {md : Md} {w0 w : World} {S0 : List Nat} {GS : Glo} {ρ ρe : Nat → Ad} {Se : St} {Fe : Nat → Value} {a : List Ty} {r : List Rk} {H gs : List Ob}
theorem end_ok(hmd:md=⟨md.n,[],none⟩)(hn:C.nn=md.n)(hS:Rel C w0 S0 ρe Se Fe w)(hlnH:Lns ρ H)(hho:∀(id e:Nat) (cs:List SC),H[id]? =some (.bl e cs)→∀c∈cs,c.ok H.length)(hnd:(Rk.ids r).Nodup)(hout:outsK H r=true)
  (hle:Le (H++gs).length (alOf r H H 0) ρ (H++gs) ρe Se.H) {rs:List ResultVar} {y:(resT r).T} (h:resD C (H++gs).length (alOf r H H 0) rs r Se=some y):
  ∃(ρ2:Nat→Ad) (L2:List Res) (us:List Value),Up H.length ρ ρ2∧Hp w0 S0 L2 w∧Mt w0 S0 ρ2 (putR (fun j=>j) ([],kill H (eatJ (Rk.ids r) H 0)) r y).2 L2∧(putR (fun j=>j) ([],kill H (eatJ (Rk.ids r) H 0)) r y).1.map (SA.v ρ2)=us∧
   (rs.map (Go.Oe.resOf C Se)).map (SV.v ρe)=us.map some:=by
 unfold resD at h
 split at h
 ·rename_i x ss hr
  have h:=aag h
  have htk:=aeo (show(bif nodN (ownS ss)then St.oks ⟨Se.F,Se.H,(H++gs).length,alOf r H H 0,[]⟩ (amh Se.H (ownS ss))else false)=true from h.1)
  have h2:=aag h.2
  have hdis:=disN_iff.1 h2.1
  cases h2.2
  let E:=eatJ (Rk.ids r) H 0
  let R:=rgO r
  let ρ3:Nat→Ad:=fun id=>if id<H.length then ρe id else match ss[id-H.length]? with
   |some s=>s.ad ρe
   |none=>ρe id
  have hup2:Up H.length ρe ρ3:=fun id hi=>by simp only [ρ3,hi,if_true]
  have hup0:Up H.length ρ ρe:=fun id hi=>hle.up id (by rw [zac];omega)
  have hup:Up H.length ρ ρ3:=hup0.trans hup2 (zap _)
  have had:∀(j:Nat) (s:Src),ss[j]? =some s→ρ3 (H.length+j)=s.ad ρe:=by
   intro j s hj
   have h1:¬H.length+j<H.length:=by omega
   have h2:H.length+j-H.length=j:=by omega
   simp only [ρ3,h1,if_false,h2,hj]
  have hEmem:∀id,id∈E↔∃o,H[id]? =some o∧ank (some o)=true∧id∉Rk.ids r:=by
   intro id
   show id∈eatJ (Rk.ids r) H 0↔_
   rw [eatJ_mem]
   simp
  have keyQ:∀q∈R,(∃e cs,H[q.1]? =some (.bl e cs)∧q.2.2≤cs.length)∨(ank H[q.1]? =true∧q.2=(0,1)):=by
   intro q hq
   rcases rgO_of hq with⟨id,e,x,h1,rfl⟩|⟨id,x,h1,rfl⟩
   ·obtain⟨cs,h3,h4⟩:=arx hout _ h1
    exact .inl ⟨e,cs,h3,by rw [h4];exact zap _⟩
   ·exact .inr ⟨(arx hout _ h1).1,rfl⟩
  have eatQ:∀id∈E,ank H[id]? =true∨∃e cs,H[id]? =some (.bl e cs):=by
   intro id hid
   obtain⟨o,h1,h2,_⟩:=(hEmem id).1 hid
   exact .inl (by rw [h1];exact h2)
  have hcov:∀id j,cov id j (alOf r H H 0)=true→cov id j (R++amh H E)=true:=by
   intro id j hc
   obtain⟨o,_,h1,h2⟩:=alOf_cov hc
   rw [Nat.sub_zero]at h1
   rcases h2 with⟨h2,rfl⟩|⟨h2,h3,h4⟩
   ·by_cases ho:id∈Rk.ids r
    ·rcases ids_of ho with⟨e,x,h5⟩|⟨x,h5⟩
     ·obtain⟨cs,h6,_⟩:=arx hout _ h5
      rw [h1]at h6
      cases h6
      cases h2
     ·exact afv.2 (.inl (adm.2 ⟨_,rgO_w h5,rfl,zap _,zbo⟩))
    ·exact afv.2 (.inr (api ((hEmem id).2 ⟨o,h1,h2,ho⟩)))
   ·rcases ids_of h3 with⟨e,x,h5⟩|⟨x,h5⟩
    ·obtain⟨cs,h6,h7⟩:=arx hout _ h5
     refine afv.2 (.inl (adm.2 ⟨_,rgO_o h5,rfl,zan _, ?_⟩))
     unfold cellsO at h4
     rw [aap,h6]at h4
     show j<x.cn
     rw [←h7];exact h4
    ·have:=(arx hout _ h5).1
     rw [h1,h2]at this
     cases this
  have hle2:Le H.length (R++amh H E) ρ H ρe Se.H:=by
   refine⟨by have:=hle.len;rw [zac]at this;omega,hup0,fun id o hi ho=> ?_⟩
   have:=hle.kp id o (by rw [zac];omega) (by rw [List.getElem?_append_left hi];exact ho)
   exact this.mono fun j hc=>hcov id j hc
  have h0:=PI.baseG (F2:=Fe) (Fm:=(Tr.e:Tr SV)) (ρ3:=ρ3) hlnH hho keyQ eatQ hle2 hup (fun t u hu=>by
   have e:gtF (Tr.e:Tr SV) t=.u':=by unfold gtF;rw [Go.Ce.Tr.get_e]
   rw [e]at hu;cases hu) (fun t=>by
   have e:gtF (Tr.e:Tr SV) t=.u':=by unfold gtF;rw [Go.Ce.Tr.get_e]
   rw [e];trivial)
  have hlenB:(kill (aod H R) E).length=H.length:=by rw [atu,atj]
  have hKR:∀q∈r,KR H.length H (kill (aod H R) E) E (R++amh H E) q:=by
   intro q hq
   have ho:=arx hout q hq
   cases q with
   |r' x=>trivial
   |o' id e x=>
    obtain⟨cs,h3,h4⟩:=ho
    refine⟨(List.getElem?_eq_some_iff.1 h3).1,fun j hj=>afv.2 (.inl (adm.2 ⟨_,rgO_o hq,rfl,zan _,hj⟩)), ?_⟩
    obtain⟨o2,h5,cs2,rfl,_⟩:=aps (rs:=R) h3
    have hnE:id∉E:=fun hE=>by
     obtain⟨o,h6,h7,_⟩:=(hEmem id).1 hE
     rw [h3]at h6
     cases h6
     cases h7
    exact⟨e,cs2,by rw [alv,if_neg hnE];exact h5⟩
   |w' id x=>
    have ho:ank H[id]? =true∧isRowT x=true:=ho
    have hlt:id<H.length:=by
     cases h3:H[id]? with
     |none=>rw [h3]at ho;cases ho.1
     |some _=>exact(List.getElem?_eq_some_iff.1 h3).1
    refine⟨hlt,afv.2 (.inl (adm.2 ⟨_,rgO_w hq,rfl,zap _,zbo⟩)),fun hE=> ?_,ho.1⟩
    obtain⟨o,_,_,h6⟩:=(hEmem id).1 hE
    exact h6 (ids_mem hq (List.mem_singleton.2 rfl))
  obtain⟨hP,us,hu1,hu2⟩:=PI.stepsR (rel_lns hS) (rel_brk hS) (zap _) hup2 r _ [] y ss _ [] h0 hr hnd hKR (by rw [hlenB];exact had)
  rw [zaB]at hP
  obtain⟨L,hH,hM⟩:=hS.mem
  obtain⟨L3,hH3,hM3⟩:=hP.mem hH hM hup2 had (nodN_iff.1 htk.1) (fun id hid hlt=>by
   have hc:cov id 0 (alOf r H H 0)=true:=oks_cov htk.2 (by show id<(H++gs).length;rw [zac];omega) (api hid)
   obtain⟨o,_,h1,h2⟩:=alOf_cov hc
   rw [Nat.sub_zero]at h1
   have hno:=hdis id hid
   rcases h2 with⟨h2,_⟩|⟨_,h3,_⟩
   ·exact(hEmem id).2 ⟨o,h1,h2,hno⟩
   ·exact absurd h3 hno)
  have hsame:putR (fun j=>j) (([]:List SA),kill (aod H R) E) r y=putR (fun j=>j) ([],kill H E) r y:=by
   have hlk:∀id,lenH (kill (aod H R) E) id=lenH (kill H E) id:=by
    intro id
    rw [aqn,aqn,alv,alv]
    cases hg:H[id]? with
    |none=>rw [forget_none hg]
    |some o=>
     obtain⟨o2,h1,h2⟩:=aps (rs:=R) hg
     rw [h1]
     split
     ·exact h2.len
     ·exact h2.len
   refine putR_same r y [] _ _ (by rw [atu,atj,atu]) hlk (fun id hid=> ?_) (fun q hq id x e=> ?_)
   ·rw [alv,alv]
    cases hg:H[id]? with
    |none=>rw [forget_none hg]
    |some o=>
     have hnc:∀j,cov id j R=false:=by
      intro j
      cases hc:cov id j R with
      |false=>rfl
      |true=>
       exfalso
       obtain⟨q,hq,h1,_⟩:=adm.1 hc
       rcases rgO_of hq with⟨i,e,x,h3,rfl⟩|⟨i,x,h3,rfl⟩
       ·have h1:i=id:=h1
        subst h1
        exact hid (ids_mem h3 (List.mem_singleton.2 rfl))
       ·have h1:i=id:=h1
        subst h1
        exact hid (ids_mem h3 (List.mem_singleton.2 rfl))
     have hnq:∀q∈R,q.1≠id:=by
      intro q hq e
      rcases rgO_of hq with⟨i,e2,x,h3,rfl⟩|⟨i,x,h3,rfl⟩
      ·have e:i=id:=e
       subst e
       exact hid (ids_mem h3 (List.mem_singleton.2 rfl))
      ·have e:i=id:=e
       subst e
       exact hid (ids_mem h3 (List.mem_singleton.2 rfl))
     obtain⟨o2,h1,h2⟩:=aps (rs:=R) hg
     have e:o2=o:=by
      cases o with
      |bl e cs=>
       obtain⟨cs2,rfl,h3,h4⟩:=h2
       have:cs2=cs:=List.ext_getElem? fun j=>by rw [h4,hnc j,if_neg (by simp)]
       rw [this]
      |_=>
       rcases h2 with⟨h2,_⟩|⟨_,q,hq,h3⟩
       ·exact h2
       ·exact absurd h3 (hnq q hq)
     rw [h1,e]
   ·have:=arx hout q hq
    rw [e]at this
    exact this.2
  rw [hsame]at hM3 hu2
  refine⟨ρ3,L3,us,hup,hH3,hM3,by rw [hu2];rfl,hu1⟩
 ·cases h
end
open Go.Wk
open Go.Ce (Tr)
open List renaming append_assoc → zaq, append_nil → zam, length_append → zac, length_map → zaL, length_nil → zal, map_congr_left → zaT, nil_append → zaB, replicate → zbv
open Nat renaming beq → zai, blt → zaW, le_refl → zap, zero_add → zbb
open Option renaming map_some → zaR
section
variable {C : Cx} {md : Md} {w0 w : World} {S0 : List Nat} {GS : Glo} {ρ : Nat → Ad} {S : St} {F : Nat → Value}
theorem loadVar_of{t : TypeId}{a : Operand}{p : Addr}{u : Value}(hx : evn md F a = .pointer (some p))(h : (execOp (evn md F) (⟨some 0, .load t a, 0, "", #[], none⟩ : Oper)).run C.P w = .ok (.value u) w) : (loadVar t p).run C.P w = .ok u w := by
 simp only [execOp,hx,Instr.loadAt,Instr.sureAddr,Sem.run_bind,Sem.run_pure,Result.andThen_ok]at h
 cases hl:(loadVar t p).run C.P w with
 |ok v w'=>
  rw [hl]at h
  simp only [Result.andThen_ok,Result.ok.injEq,Next.value.injEq]at h
  rw [h.1,h.2]
 |halt x w'=>rw [hl]at h;cases h
theorem resOf_run(hn:C.nn=md.n)(hS:Rel C w0 S0 ρ S F w){rv:ResultVar}{u:Value}(h:(Go.Oe.resOf C S rv).v ρ=some u):(Go.Wk.resOf (fr md F).tmps rv).run C.P w=.ok u w:=by
 cases rv with
 |tmp t=>
  have h:(S.ev C (.tmp t)).v ρ=some u:=h
  have:=(aua hS hn (.tmp t)).2 u h
  have e:(bif zaW t md.n then F t else undef)=u:=this
  unfold Go.Wk.resOf
  simp only [fr_get,e,Sem.run_pure]
 |cell a t=>
  have h:((match S.ev C (.tmp a)with
   |.c' x=>match arg C S.H t x with
    |some ⟨[],v,_,_⟩=>v
    |_=>.u'
   |_=>.u'):SV).v ρ=some u:=h
  split at h
  ·rename_i x hx
   have hx2:S.ev C (.tmp a)=.c' x:=hx
   obtain⟨h1,h2⟩:=adu hS hn hx2
   split at h
   ·rename_i v H m hl
    obtain⟨⟨_,u2,h3,h4⟩,_⟩:=load_ok hS (md:=md) (x:=.tmp a) h2 hl trivial
    have h3:v.v ρ=some u2:=h3
    rw [h]at h3
    cases h3
    have h5 := h4 0 0 "" #[]
    have hp:∃p,x.v ρ=.pointer (some p):=by
     unfold arg at hl
     split at hl
     ·rename_i n ag _ _
      cases hz:zai n 0 with
      |true=>rw [hz]at hl;cases hl
      |false=>
       rw [hz]at hl
       cases x<;>first|exact⟨_,rfl⟩|cases hl
     ·cases hl
    obtain⟨p,hp⟩:=hp
    rw [hp]at h2
    have h6:=loadVar_of h2 h5
    have e:(bif zaW a md.n then F a else undef)=.pointer (some p):=h2
    unfold Go.Wk.resOf
    simp only [fr_get,e,asAddr,Sem.run_bind,Sem.run_pure,Result.andThen_ok]
    exact h6
   ·cases h
  ·cases h
end
def oneV:List Value→Value
 |[u]=>u
 |us=>.tuple us.toArray
theorem results_go{P:Program}{kk:Nat}{F:Nat→Value}{w:World}{fn:Func}(l:List ResultVar)(vs:List Value)(hr:fn.results=l.toArray)(hl:l.length=vs.length)
  (hv:∀(i:Nat) (x:ResultVar) (v:Value),l[i]? =some x→vs[i]? =some v→(Go.Wk.resOf (fr ⟨kk,[],none⟩ F).tmps x).run P w=.ok v w) (v:Value) (hone:oneV vs=v):
  (results fn (fr ⟨kk,[],none⟩ F).tmps).run P w=.ok v w:=by
 have hm:=run_mapM (P:=P) (w:=w) (Go.Wk.resOf (fr ⟨kk,[],none⟩ F).tmps) l vs hl hv
 unfold results
 rw [hr]
 change Sem.run P (do let vs←l.toArray.mapM (Go.Wk.resOf (fr ⟨kk,[],none⟩ F).tmps);pure (if h:vs.size=1 then vs[0]else .tuple vs)) w=_
 simp only [List.mapM_toArray,Sem.run_bind,Sem.run_map]
 rw [hm]
 simp only [Result.andThen_ok,Sem.run_pure]
 subst hone
 congr 1
 cases vs with
 |nil=>simp [oneV]
 |cons u us=>cases us with
  |nil=>simp [oneV]
  |cons u' us=>simp [oneV]
theorem resV_one{ρ:Nat→Ad}:∀(l:List SA),(resV l).v ρ=some (oneV (l.map (SA.v ρ)))
 |[]=>rfl
 |[x]=>SA.sv_v ρ x
 |_::_::_=>rfl
theorem fun_ok{C:Cx}{k:Nat}{fn:Func}{code:Code}{GS:Glo}{gl:List (Nat×Ob)}{rs:List ResultVar}{sc:Sc}{a:List Ty}{r:List Rk}{f:(tupT a).T→Gv (resT r).T}(hf:C.P.funcs[k]? =some fn)(hb:fn.body=some code)(hn:fn.ntmps=C.nn)(hr:fn.results=rs.toArray)
  (hden:∀x y,(f x).ok y→denF C (gl.map (·.2)) code rs sc a r x=some y) (hal:a.length≤C.nn) (hE:EOk C) (hX:∀k,∀c∈C.X k,Enters C.P k∧FOk C.P GS k c) (hgl:∀q∈gl,q∈GS.gs∧∃t l,q.2=.ro t l)
  (hG:∀g id,C.G g=some id→∃i q,id=noA a+i∧gl[i]? =some q∧q.1=g):FOk C.P GS k ⟨a,r,f⟩:=by
 intro w S ρ L us x y hGw hHp hMt hus hy
 let H:List Ob:=(apn [] a x).2
 have hAH:argH ⟨a,r,f⟩ x=H:=rfl
 let gs:List Ob:=gl.map (·.2)
 have hd:=hden x y hy
 have hd:(bif (bif noTz a then(bif nodN (Rk.ids r)then outsK H r else false)else false)then den C (resT r) (resD C (H++gs).length (alOf r H H 0) rs r) code sc ⟨setL Tr.e 0 (apn [] a x).1,H++gs,(H++gs).length,alOf r H H 0,[]⟩ (resT r) some (endK (resD C (H++gs).length (alOf r H H 0) rs r))else none)=some y:=hd
 have hd:=aag hd
 have hc:=aeo hd.1
 have hc2:=aeo hc.2
 have hnt:=hc.1
 have hnd:=nodN_iff.1 hc2.1
 have hout:=hc2.2
 have hden:=hd.2
 obtain⟨obs,ho1,ho2,ho3,ho4⟩:=layA_ok a [] x hnt
 rw [zaB]at ho1
 have hHo:H=obs:=ho1
 have hlenH:H.length=noA a:=by
  have:=layA_no a [] x
  rw [zal,zbb]at this
  exact this
 have hHlen:([]:List Ob).length+obs.length=H.length:=by rw [hHo];simp
 rw [hHlen]at ho3 ho4
 have hm:Mt w S ρ H L:=hMt
 have hgl2:∀(i:Nat) (q:Nat×Ob),gl[i]? =some q→∃t l,q.2=.ro t l∧Rd w (some ⟨q.1,0,none⟩) (l.flatMap t.enc)∧q.1∉S:=by
  intro i q hq
  obtain⟨g,o⟩:=q
  obtain⟨h1,t,l,h2⟩:=hgl _ (List.mem_of_getElem? hq)
  have h2:o=.ro t l:=h2
  subst h2
  have:=GS.rd hGw h1
  exact⟨t,l,rfl,this.1,this.2⟩
 let ρ1:Nat→Ad:=fun id=>if id<H.length then ρ id else match gl[id-H.length]? with
  |some q=>⟨none,some ⟨q.1,0,none⟩,q.2.len,false,q.2.len⟩
  |none=>ρ id
 have hup1:Up H.length ρ ρ1:=fun id hi=>by simp only [ρ1,hi,if_true]
 have hg1:∀(i:Nat) (q:Nat×Ob),gl[i]? =some q→ρ1 (H.length+i)=⟨none,some ⟨q.1,0,none⟩,q.2.len,false,q.2.len⟩:=by
  intro i q hq
  have e1:¬H.length+i<H.length:=by omega
  have e2:H.length+i-H.length=i:=by omega
  simp only [ρ1,e1,if_false,e2,hq]
 have hvs:(apn [] a x).1.map (SV.v ρ1)=us.map some:=by
  have hus:(apn [] a x).1.map (SV.v ρ)=us.map some:=hus
  rw [←hus]
  refine zaT fun v hv=>SV.up hup1 (ho3 v hv)
 have hlus:us.length=a.length:=by
  have:=congrArg List.length hus
  simp only [zaL]at this
  rw [←this];exact ho2
 let S1:St:=⟨setL Tr.e 0 (apn [] a x).1,H++gs,(H++gs).length,alOf r H H 0,[]⟩
 have hlnS:(H++gs).length=H.length+gl.length:=by simp [gs]
 have hrel:Rel C w S ρ1 S1 (argF us) w:=by
  have hat:∀t,S1.at t=if t<a.length then(apn [] a x).1.getD t .u' else .u':=by
   intro t
   rw [St.at_eq]
   show gtF (setL Tr.e 0 (apn [] a x).1) t=_
   rw [setL_get,ho2,zbb,Nat.sub_zero]
   have e:gtF (Tr.e:Tr SV) t=.u':=by unfold gtF;rw [Go.Ce.Tr.get_e]
   rw [e]
   simp
  refine⟨fun g id hg=> ?_,fun t u hu=> ?_,fun t=> ?_,fun id e cs ho c hcm=> ?_,⟨L++zbv gl.length nores, ?_, ?_, ?_⟩⟩
  ·obtain⟨i,q,h1,h2,rfl⟩:=hG g id hg
   have hi:=(List.getElem?_eq_some_iff.1 h2).1
   rw [←hlenH]at h1
   subst h1
   exact⟨by show H.length+i<(H++gs).length;omega,by rw [hg1 i q h2]⟩
  ·rw [hat]at hu
   split at hu
   ·rename_i ht
    have h1:(apn [] a x).1[t]? =some ((apn [] a x).1[t]'(by rw [ho2];exact ht)):=List.getElem?_eq_getElem (by rw [ho2];exact ht)
    have h2:=congrArg (fun l=>l[t]?) hvs
    simp only [List.getElem?_map,h1,zaR]at h2
    have h3:us[t]? =some (us[t]'(by omega)):=List.getElem?_eq_getElem (by omega)
    rw [h3]at h2
    rw [List.getD_eq_getElem?_getD,h1]at hu
    have h4:=Option.some.inj h2
    rw [show((some ((apn [] a x).1[t]'(by rw [ho2];exact ht))).getD SV.u')=(apn [] a x).1[t]'(by rw [ho2];exact ht)from rfl,h4]at hu
    unfold argF
    rw [List.getD_eq_getElem?_getD,h3]
    exact Option.some.inj hu
   ·cases hu
  ·rw [hat]
   split
   ·rename_i ht
    have h1:(apn [] a x).1[t]? =some ((apn [] a x).1[t]'(by rw [ho2];exact ht)):=List.getElem?_eq_getElem (by rw [ho2];exact ht)
    rw [List.getD_eq_getElem?_getD,h1]
    exact SV.ok_mono (ho3 _ (List.mem_of_getElem? h1)) (by show H.length≤(H++gs).length;omega)
   ·trivial
  ·have ho:(H++gs)[id]? =some (.bl e cs):=ho
   by_cases hi:id<H.length
   ·rw [List.getElem?_append_left hi,hHo]at ho
    exact SC.ok_mono (ho4 id e cs ho c hcm) (by show H.length≤(H++gs).length;omega)
   ·rw [List.getElem?_append_right (by omega)]at ho
    exfalso
    obtain⟨q,h1,h2⟩:=map_some ho
    obtain⟨t,l,h3,_⟩:=hgl2 _ q h1
    rw [h3]at h2;cases h2
  ·have key:∀n,Hp w S (L++zbv n nores) w:=by
    intro n
    induction n with
    |zero=>rw [List.replicate_zero,zam];exact hHp
    |succ n ih=>
     have:=Go.Oe.Hp.rot (hp_idle ih)
     rw [zaq]at this
     rw [List.replicate_succ']
     exact this
   exact key _
  ·show(L++_).length=(H++gs).length
   rw [zac,List.length_replicate,hlnS,hm.1]
  ·intro id o ho
   have ho:(H++gs)[id]? =some o:=ho
   by_cases hi:id<H.length
   ·rw [List.getElem?_append_left hi]at ho
    obtain⟨h1,r1,h2,h3⟩:=hm.2 id o ho
    refine⟨by rw [hup1 id hi];exact h1,r1,by rw [List.getElem?_append_left (by rw [hm.1];exact hi)];exact h2,h3.up hup1 hi fun e cs he=> ?_⟩
    rw [he,hHo]at ho
    exact ho4 id e cs ho
   ·rw [List.getElem?_append_right (by omega)]at ho
    obtain⟨q,h1,h2⟩:=map_some ho
    obtain⟨t,l,h3,h4,h5⟩:=hgl2 _ q h1
    have hgi:=hg1 _ q h1
    rw [show H.length+(id-H.length)=id by omega]at hgi
    rw [h3]at h2
    subst h2
    have hilt:=(List.getElem?_eq_some_iff.1 h1).1
    refine⟨by rw [hgi,h3],nores, ?_,rfl, ?_⟩
    ·rw [List.getElem?_append_right (by rw [hm.1];omega),List.getElem?_replicate,if_pos (by rw [hm.1];exact hilt)]
    ·rw [hgi]
     exact⟨h4,fun _ p hp=>by cases hp;exact h5,by rw [h3];exact zap _⟩
 let md:Md:=⟨C.nn,[],none⟩
 have hEnv:Env C md w S GS:=⟨hE,rfl,hGw,hX⟩
 have hsnd:=den_sound (τ:=resT r) (res:=resD C (H++gs).length (alOf r H H 0) rs r) (md:=md) (w0:=w) (S0:=S) (C:=C) rfl ⟨_,rfl⟩ (pureOk rfl) code (regs_ok hEnv rfl code)
 have fin:∀S2 ρ2 F2 w2,resD C (H++gs).length (alOf r H H 0) rs r S2=some y→Rel C w S ρ2 S2 F2 w2→Le S1.nb S1.al ρ1 S1.H ρ2 S2.H→
   ∃vs v,rs.length=vs.length∧(∀(i:Nat) (x:ResultVar) (u:Value),rs[i]? =some x→vs[i]? =some u→(Go.Wk.resOf (fr md F2).tmps x).run C.P w2=.ok u w2)∧oneV vs=v∧
    ∃ρ3 L3,Up H.length ρ ρ3∧Hp w S L3 w2∧Mt w S ρ3 (retS ⟨a,r,f⟩ x y).2 L3∧(resV (retS ⟨a,r,f⟩ x y).1).v ρ3=some v:=by
  intro S2 ρ2 F2 w2 h1 h2 h3
  obtain⟨ρ3,L3,vs,h4,h5,h6,h7,h8⟩:=end_ok (md:=md) (H:=H) (gs:=gs) (ρ:=ρ1) rfl rfl h2 (fun id o ho=>by
   have hi:=(List.getElem?_eq_some_iff.1 ho).1
   rw [hup1 id hi];exact hm.lns id o ho) (fun id e cs ho=>by rw [hHo]at ho;exact ho4 id e cs ho) hnd hout h3 h1
  refine⟨vs,_,by simpa using congrArg List.length h8,fun i rv u hi hu=> ?_,rfl,ρ3,L3,hup1.trans h4 (zap _),h5,h6, ?_⟩
  ·have h9:=congrArg (fun l=>l[i]?) h8
   simp only [List.getElem?_map,hi,hu,zaR]at h9
   exact resOf_run (md:=md) rfl h2 (Option.some.inj h9)
  ·rw [←h7];exact resV_one _
 refine enter (k:=C.nn) hf hb hn (by rw [hlus];exact hal) ?_
 refine hsnd sc S1 (resT r) some (endK (resD C (H++gs).length (alOf r H H 0) rs r)) y ρ1 (argF us) w _ hden hrel (fun e S2 ρ2 F2 w2 he hS2 hN hf2 hran=> ?_) (fun z S2 ρ2 F2 w2 hz hps hS2 hL=> ?_)
 ·cases e with
  |nm=>
   obtain⟨vs,v,h1,h2,h3,ρ3,L3,h4⟩:=fin S2 ρ2 F2 w2 he hS2 hN.le
   exact⟨rfl,v,results_go rs vs hr h1 h2 v h3,v,rfl,ρ3,L3,h4⟩
  |xt i=>cases he
 ·cases hps
  obtain⟨vs,v,h1,h2,h3,ρ3,L3,h4⟩:=fin S2 ρ2 F2 w2 hz hS2 hL.le
  exact⟨rfl,v,results_go rs vs hr h1 h2 v h3,v,rfl,ρ3,L3,h4⟩
open Go.Wk
open Go.Ce (Tr)
open List renaming eq_nil_of_length_eq_zero → zao
open Nat renaming beq → zai, ble → zaz, eq_of_beq_eq_true → zag, le_of_ble_eq_true → zaD, one_pos → zbo, succ → zaA
structure KF (P:Program) (GS:Glo) where
 k:Nat
 c:Con
 en:Enters P k
 ok:FOk P GS k c
def lookX{P:Program}{GS:Glo}:List (KF P GS)→Nat→List Con
 |[],_=>[]
 |q::l,k=>bif zai k q.k then q.c::lookX l k else lookX l k
theorem lookX_ok{P:Program}{GS:Glo}:∀(l:List (KF P GS)) (k:Nat),∀c∈lookX l k,Enters P k∧FOk P GS k c
 |[],k,c,h=>by cases h
 |q::l,k,c,h=>by
  unfold lookX at h
  cases hq:zai k q.k with
  |false=>rw [hq]at h;exact lookX_ok l k c h
  |true=>
   rw [hq]at h
   rcases List.mem_cons.1 (show c∈q.c::lookX l k from h)with rfl|h
   ·rw [zag hq];exact⟨q.en,q.ok⟩
   ·exact lookX_ok l k c h
def gIdx:List (Nat×Ob)→Nat→Nat→Option Nat
 |[],_,_=>none
 |q::l,n,g=>bif zai g q.1 then some n else gIdx l (zaA n) g
theorem gIdx_ok:∀(l:List (Nat×Ob)) (n g id:Nat),gIdx l n g=some id→∃i q,id=n+i∧l[i]? =some q∧q.1=g
 |[],n,g,id,h=>by cases h
 |q::l,n,g,id,h=>by
  unfold gIdx at h
  cases hq:zai g q.1 with
  |false=>
   rw [hq]at h
   obtain⟨i,q2,h1,h2,h3⟩:=gIdx_ok l (zaA n) g id h
   exact⟨i+1,q2,by omega,h2,h3⟩
  |true=>
   rw [hq]at h
   cases h
   exact⟨0,q,rfl,rfl,(zag hq).symm⟩
structure Sea where
 P:Program
 GS:Glo
 E:Nat→Option (Nat×Nat×Ty)
 hE:∀t e b τ,E t=some (e,b,τ)→P.underlying t=some (.slice e)∧TI P e τ.sz b∧τ.flat=true∧0<b
 gt:∀q∈GS.gs,∃t l,q.2=.ro t l
abbrev Sea.K(T:Sea):Type:=KF T.P T.GS
abbrev Sea.cx(T:Sea)(fu n:Nat)(l:List T.K)(a:List Ty):Cx:=⟨T.P,lookX l,T.E,gIdx T.GS.gs (noA a),n,fu⟩
def Sea.fn(T : Sea)(fu k : Nat){fn : Func}(hf : T.P.funcs[k]? = some fn){code : Code}(hb : fn.body = some code)(nm : (fn.name == "runtime.NumGoroutine") = false)(l : List T.K)(a : List Ty)(r : List Rk)(g : (tupT a).T → Option (resT r).T)(sc : Sc)
  (hal:zaz a.length fn.ntmps=true) (hden:∀x,denF (T.cx fu fn.ntmps l a) (T.GS.gs.map (·.2)) code fn.results.toList sc a r x=g x):T.K:=
 ⟨k,⟨a,r,fun x=>.one (g x)⟩,⟨fn,code,hf,hb,nm⟩,
  fun_ok (C:=T.cx fu fn.ntmps l a) (gl:=T.GS.gs) hf hb rfl (rs:=fn.results.toList) (by simp) (sc:=sc) (fun x y hy=>(hden x).trans hy) (zaD hal) T.hE (lookX_ok l) (fun q hq=>⟨hq,T.gt q hq⟩) (fun g id h=>gIdx_ok _ _ _ _ h)⟩
theorem anr{P:Program}{GS:Glo}{k:Nat}{c:Con}(V:(tupT c.a).T→List Value)(R:(resT c.r).T→Value)(hH:∀x,argH c x=[])(hV:∀ρ x,(apn [] c.a x).1.map (SV.v ρ)=(V x).map some)
  (hr:∀x y,(retS c x y).2=[]) (hR:∀ρ x y,(resV (retS c x y).1).v ρ=some (R y)) (h:∀w S x y,GS.p w S→(c.f x).ok y→CR P k (V x) w fun v w2=>v=R y∧Hp w [] [] w2):FOk P GS k c:=by
 intro w S ρ L us x y hG hHp hMt hus hy
 rw [hV]at hus
 have e:V x=us:=(List.map_inj_right (fun a b h=>Option.some.inj h)).1 hus
 subst e
 have hL:L=[]:=zao (by rw [hMt.1,hH];rfl)
 subst hL
 refine Calls.mono (h w S x y hG hy) ?_
 rintro ev w2 ⟨v,he,rfl,hw⟩
 refine⟨_,he,ρ,[],fun _ _=>rfl,hHp.call hw, ?_,hR ρ x y⟩
 rw [hr]
 exact⟨rfl,fun id o ho=>by simp at ho⟩
theorem fok_read{P:Program}{GS:Glo}{k:Nat}{c:Con}{t:Ty}(X:(tupT c.a).T→List t.T)(V:(tupT c.a).T→List Value)(R:(resT c.r).T→Value)(hH:∀x,argH c x=[.ro t (X x)])(hV:∀(ρ:Nat→Ad) x,(apn [] c.a x).1.map (SV.v ρ)=(Value.slice (ρ 0).a (ρ 0).ln (ρ 0).cap::V x).map some)
  (hr:∀x y,(retS c x y).2=[.ro t (X x)]) (hR:∀ρ x y,(resV (retS c x y).1).v ρ=some (R y))
  (h:∀w S x y a n cap,GS.p w S→(c.f x).ok y→n=(X x).length→Rd w a ((X x).flatMap t.enc)→n≤cap→CR P k (Value.slice a n cap::V x) w fun v w2=>v=R y∧Hp w [] [] w2):FOk P GS k c:=by
 intro w S ρ L us x y hG hHp hMt hus hy
 rw [hV]at hus
 have e:=(List.map_inj_right (fun a b h=>Option.some.inj h)).1 hus
 subst e
 rw [hH]at hMt
 obtain⟨h1,r,h2,h3,h4⟩:=hMt.2 0 _ rfl
 have hln:(ρ 0).ln=(X x).length:=h1.symm
 refine Calls.mono (h w S x y _ _ _ hG hy hln h4.1 (by rw [hln];exact h4.2.2)) ?_
 rintro ev w2 ⟨v,he,rfl,hw⟩
 refine⟨_,he,ρ,L,fun _ _=>rfl,hHp.call hw, ?_,hR ρ x y⟩
 rw [hr]
 exact hMt
theorem fok_row{P:Program}{GS:Glo}{k:Nat}{c:Con}{e b:Nat}{t:Ty}(Y:(resT c.r).T→List t.T)(V:(tupT c.a).T→List Value)(hH:∀x,argH c x=[])(hV:∀(ρ:Nat→Ad) x,(apn [] c.a x).1.map (SV.v ρ)=(V x).map some)
  (hr:∀x y,(retS c x y).2=[.rw e b t (Y y)]) (hR:∀(ρ:Nat→Ad) x y,(resV (retS c x y).1).v ρ=some (.slice (ρ 0).a (ρ 0).ln (ρ 0).cap))
  (h:∀w S x y,GS.p w S→(c.f x).ok y→CR P k (V x) w fun v w2=>∃o a cap,v=.slice a (Y y).length cap∧Hp w [] [rwt t.enc e t.sz o a cap (Y y)] w2):FOk P GS k c:=by
 intro w S ρ L us x y hG hHp hMt hus hy
 rw [hV]at hus
 have e:=(List.map_inj_right (fun a b h=>Option.some.inj h)).1 hus
 subst e
 have hL:L=[]:=zao (by rw [hMt.1,hH];rfl)
 subst hL
 refine Calls.mono (h w S x y hG hy) ?_
 rintro ev w2 ⟨v,he,o,a,cap,rfl,hw⟩
 refine⟨_,he,fun id=>⟨o,a,cap,false,(Y y).length⟩,_,(fun i hi=>by rw [hH]at hi;cases hi),hHp.callL hw, ?_,hR _ x y⟩
 rw [hr]
 refine⟨rfl,fun id ob ho=> ?_⟩
 cases id with
 |zero=>cases ho;exact⟨rfl,_,rfl,rfl⟩
 |succ id=>simp at ho
theorem fok_clone{P:Program}{GS:Glo}{k:Nat}{c:Con}{e b:Nat}{t:Ty}(X:(tupT c.a).T→List t.T)(Y:(resT c.r).T→List t.T)(hH:∀x,argH c x=[.ro t (X x)])(hV:∀(ρ:Nat→Ad) x,(apn [] c.a x).1.map (SV.v ρ)=[Value.slice (ρ 0).a (ρ 0).ln (ρ 0).cap].map some)
  (hr:∀x y,(retS c x y).2=[.ro t (X x),.rw e b t (Y y)]) (hR:∀(ρ:Nat→Ad) x y,(resV (retS c x y).1).v ρ=some (.slice (ρ 1).a (ρ 1).ln (ρ 1).cap))
  (h:∀w S x y a n cap,GS.p w S→(c.f x).ok y→n=(X x).length→Rd w a ((X x).flatMap t.enc)→n≤cap→CR P k [Value.slice a n cap] w fun v w2=>∃o a cap,v=.slice a (Y y).length cap∧Hp w [] [rwt t.enc e t.sz o a cap (Y y)] w2):FOk P GS k c:=by
 intro w S ρ L us x y hG hHp hMt hus hy
 rw [hV]at hus
 have e:=(List.map_inj_right (fun a b h=>Option.some.inj h)).1 hus
 subst e
 rw [hH]at hMt
 obtain⟨h1,r,h2,h3,h4⟩:=hMt.2 0 _ rfl
 have hln:(ρ 0).ln=(X x).length:=h1.symm
 refine Calls.mono (h w S x y _ _ _ hG hy hln h4.1 (by rw [hln];exact h4.2.2)) ?_
 rintro ev w2 ⟨v,he,o,a,cap,rfl,hw⟩
 have hp:=(hHp.callL hw).perm (List.perm_append_comm (l₁:=[_]) (l₂:=L))
 have hL1:L.length=1:=hMt.1
 refine⟨_,he,fun id=>if id=0 then ρ 0 else⟨o,a,cap,false,(Y y).length⟩,_,fun i hi=> ?_,hp, ?_,hR _ x y⟩
 ·rw [hH]at hi
  have:i=0:=Nat.lt_one_iff.1 hi
  subst this;rfl
 rw [hr]
 refine⟨by simp [hL1],fun id ob ho=> ?_⟩
 match id,ho with
 |0,ho=>
  cases ho
  exact⟨h1,r,by rw [List.getElem?_append_left (by omega)];exact h2,h3,h4⟩
 |1,ho=>
  cases ho
  exact⟨rfl,_,by rw [List.getElem?_append_right (by omega),hL1];rfl,rfl⟩
 |id+2,ho=>simp at ho
theorem fok_useRow{P:Program}{GS:Glo}{k e b q:Nat}{t:Ty}{G:List t.T→Option (List t.T)}(h:FOk P GS k ⟨[.l' e b t,.f' q .u'],[.w' 0 (.l' e b t)],fun x=>.one (G x.1)⟩){o:Option Nat}{a:Option Addr}{cap:Nat}{l r:List t.T}{w:World}{S:List Nat}
  (hr:G l=some r) (hG:GS.p w S) (hM:Hp w S [rwt t.enc e t.sz o a cap l] w):CR P k [Value.slice a l.length cap,Value.func (.func q) #[] #[]] w fun v w'=>v=.tuple #[]∧r.length=l.length∧Hp w S [rwt t.enc e t.sz o a cap r] w':=by
 refine Calls.mono (h w S (fun _=>⟨o,a,cap,false,l.length⟩) _ [Value.slice a l.length cap,Value.func (.func q) #[] #[]] (l,()) r hG hM ?_ rfl hr) ?_
 ·show Mt w S _ [.rw e b t l] _
  refine⟨rfl,fun id ob ho=> ?_⟩
  cases id with
  |zero=>cases ho;exact⟨rfl,_,rfl,rfl⟩
  |succ id=>simp at ho
 ·rintro ev w2 ⟨v,he,ρ2,L2,h1,h2,h3,h4⟩
  have h1:ρ2 0=⟨o,a,cap,false,l.length⟩:=h1 0 zbo
  have h3:Mt w S ρ2 [.rw e b t r] L2:=h3
  obtain⟨g1,q2,g2,g3⟩:=h3.2 0 _ rfl
  have g1:r.length=(ρ2 0).ln:=g1
  have g3:q2=rwt t.enc e t.sz (ρ2 0).o (ρ2 0).a (ρ2 0).cap r:=g3
  subst g3
  rw [h1]at g1 g2
  have hL:L2=[rwt t.enc e t.sz o a cap r]:=by
   have h5:=h3.1
   match L2,h5,g2 with
   |[x],_,g2=>cases g2;rfl
  subst hL
  exact⟨v,he,(Option.some.inj h4).symm,g1,h2⟩
theorem fok_use{P:Program}{GS:Glo}{k:Nat}{c:Con}(h:FOk P GS k c)(V:(tupT c.a).T→List Value)(R:(resT c.r).T→Value)(hH:∀x,argH c x=[])(hV:∀ρ x,(apn [] c.a x).1.map (SV.v ρ)=(V x).map some)
  (hR:∀ρ x y,(resV (retS c x y).1).v ρ=some (R y)) {w:World} {x:(tupT c.a).T} {y:(resT c.r).T} (hG:GS.p w []) (hy:(c.f x).ok y):CR P k (V x) w fun v w2=>v=R y∧Hp w [] [] w2:=by
 refine Calls.mono (h w [] (fun _=>⟨none,none,0,false,0⟩) [] (V x) x y hG (Hp.refl w) ?_ (hV _ x) hy) ?_
 ·rw [hH];exact⟨rfl,fun id o ho=>by simp at ho⟩
 ·rintro e w2 ⟨v,he,ρ2,L2,_,h2,_,h4⟩
  rw [hR]at h4
  exact⟨v,he,(Option.some.inj h4).symm,h2.nil⟩
end Go.Oe
set_option maxRecDepth 20000
set_option maxHeartbeats 1000000
namespace Go.Wk
open Go.Px
open Int renaming toNat → zaj
open List renaming drop → zax
open Sum renaming elim → zaJ
def aec(fu:Nat)(a0:Int):Option Bool:=
 (((if(0:Int)≤a0 then some (decide (a0<(55296:Int)))else some false)).bind fun(v5:Bool)=>(bif v5 then some true else(((if(57343:Int)<a0 then some (decide (a0≤(1114111:Int)))else some false)).bind fun(a1:Bool)=>(bif a1 then some true else some false))))
def aed(fu:Nat)(s_0:Str)(a1:Nat→Option (Unit⊕Int))(a0:Nat):Option (Unit⊕Int):=
 (if a0<s_0.length then(if((Utf8.decode ⟨List.toArray s_0⟩ a0).1:Int)=(65533:Int)then some (.inr (a0:Int))else(a1 (a0+(Utf8.decode ⟨List.toArray s_0⟩ a0).2)))else some (.inl ()))
def aew(fu:Nat)(s_0:Str):Nat→Nat→Option (Unit⊕Int):=fun k_ a0=>loopF (fun(g:Nat→Option (Unit⊕Int)) v=>aed fu s_0 (fun a0=>g a0) v) k_ a0
theorem aju{fu:Nat}{s_0:Str}{k_:Nat}{a0:Nat}:aew fu s_0 (k_+1) a0=aed fu s_0 (aew fu s_0 k_) a0:=rfl
def akr(fu:Nat)(s_0:Str)(a1:Int)(a2:Int)(a3:Int→Option Int)(a0:Int):Option Int:=
 (if a0<(((Utf8.encode a1).data.toList).length:Int)then(gd (aay (a2-a0))<|(gd (0≤(a2-a0)∧(a2-a0)<(s_0.length:Int))<|(gd (aay (((((Utf8.encode a1).data.toList).length:Int)-(1:Int))-a0))<|(gd (0≤(((((Utf8.encode a1).data.toList).length:Int)-(1:Int))-a0)∧(((((Utf8.encode a1).data.toList).length:Int)-(1:Int))-a0)<(((Utf8.encode a1).data.toList).length:Int))<|(if(at_ s_0 (a2-a0))=(at_ ((Utf8.encode a1).data.toList) (((((Utf8.encode a1).data.toList).length:Int)-(1:Int))-a0))then(gd (aay (a0+(1:Int)))<|(a3 (a0+(1:Int))))else none)))))else(gd (aay (a2-((((Utf8.encode a1).data.toList).length:Int)-(1:Int))))<|some (a2-((((Utf8.encode a1).data.toList).length:Int)-(1:Int)))))
def agt(fu:Nat)(s_0:Str)(a1:Int)(a2:Int):Nat→Int→Option Int:=fun k_ a0=>loopF (fun(g:Int→Option Int) v=>akr fu s_0 a1 a2 (fun a0=>g a0) v) k_ a0
theorem ass{fu:Nat}{s_0:Str}{a0:Int}{a1:Int}{k_:Nat}{a2:Int}:agt fu s_0 a0 a1 (k_+1) a2=akr fu s_0 a0 a1 (agt fu s_0 a0 a1 k_) a2:=rfl
def agd(fu:Nat)(s_0:Str)(a0:Int)(a3:Option Int):Option Int:=
 (if((((Utf8.encode a0).data.toList).length:Int)-(1:Int))<(s_0.length:Int)then(((gd (0≤((((Utf8.encode a0).data.toList).length:Int)-(1:Int))∧((((Utf8.encode a0).data.toList).length:Int)-(1:Int))<(s_0.length:Int))<|(gd (0≤((((Utf8.encode a0).data.toList).length:Int)-(1:Int))∧((((Utf8.encode a0).data.toList).length:Int)-(1:Int))<(((Utf8.encode a0).data.toList).length:Int))<|(if(at_ s_0 ((((Utf8.encode a0).data.toList).length:Int)-(1:Int)))=(at_ ((Utf8.encode a0).data.toList) ((((Utf8.encode a0).data.toList).length:Int)-(1:Int)))then some (.inl ((((Utf8.encode a0).data.toList).length:Int)-(1:Int)))else(gd (aay (((((Utf8.encode a0).data.toList).length:Int)-(1:Int))+(1:Int)))<|(gd (0≤(((((Utf8.encode a0).data.toList).length:Int)-(1:Int))+(1:Int))∧(((((Utf8.encode a0).data.toList).length:Int)-(1:Int))+(1:Int))≤(s_0.length:Int))<|(gd (0≤((((Utf8.encode a0).data.toList).length:Int)-(1:Int))∧((((Utf8.encode a0).data.toList).length:Int)-(1:Int))<(((Utf8.encode a0).data.toList).length:Int))<|(if(ixb (·==(at_ ((Utf8.encode a0).data.toList) ((((Utf8.encode a0).data.toList).length:Int)-(1:Int)))) (zax (zaj (((((Utf8.encode a0).data.toList).length:Int)-(1:Int))+(1:Int))) s_0))<(0:Int)then some (.inr (-1:Int))else(gd (aay ((ixb (·==(at_ ((Utf8.encode a0).data.toList) ((((Utf8.encode a0).data.toList).length:Int)-(1:Int)))) (zax (zaj (((((Utf8.encode a0).data.toList).length:Int)-(1:Int))+(1:Int))) s_0))+(1:Int)))<|(gd (aay (((((Utf8.encode a0).data.toList).length:Int)-(1:Int))+((ixb (·==(at_ ((Utf8.encode a0).data.toList) ((((Utf8.encode a0).data.toList).length:Int)-(1:Int)))) (zax (zaj (((((Utf8.encode a0).data.toList).length:Int)-(1:Int))+(1:Int))) s_0))+(1:Int))))<|some (.inl (((((Utf8.encode a0).data.toList).length:Int)-(1:Int))+((ixb (·==(at_ ((Utf8.encode a0).data.toList) ((((Utf8.encode a0).data.toList).length:Int)-(1:Int)))) (zax (zaj (((((Utf8.encode a0).data.toList).length:Int)-(1:Int))+(1:Int))) s_0))+(1:Int)))))))))))))).bind fun(a1:(Int⊕Int))=>zaJ (fun(a2:Int)=>(agt fu s_0 a0 a2 fu (1:Int))) (fun q=>some q) a1)else some (-1:Int))
def aev(fu:Nat)(s_0:Str)(a0:Int):Nat→Option Int:=fun k_=>loopF (fun(g:Unit→Option Int) v=>agd fu s_0 a0 (g ())) k_ ()
theorem anl{fu:Nat}{s_0:Str}{a0:Int}{k_:Nat}:aev fu s_0 a0 (k_+1)=agd fu s_0 a0 (aev fu s_0 a0 k_):=rfl
def acv(fu:Nat)(s_0:Str)(a0:Int):Option Int:=
 (((if(0:Int)≤a0 then some (decide (a0<(128:Int)))else some false)).bind fun(v5:Bool)=>(bif v5 then some (ixb (·==(u8i a0)) s_0)else(if a0=(65533:Int)then(((aew fu s_0 fu 0)).bind fun(a1:(Unit⊕Int))=>zaJ (fun(a3:Unit)=>some (-1:Int)) (fun q=>some q) a1)else((aec fu a0).bind fun(a2:Bool)=>(bif (!a2)then some (-1:Int)else(gd (aay ((((Utf8.encode a0).data.toList).length:Int)-(1:Int)))<|(aev fu s_0 a0 fu)))))))
def aeu(fu:Nat)(a0:Int):Option Bool:=
 some (decide ((8:Int)<a0))
def adb(fu:Nat)(s_0:Str)(a1:Str)(a2:Nat→Option (Unit⊕Int))(a0:Nat):Option (Unit⊕Int):=
 (if a0<s_0.length then((acv fu a1 ((Utf8.decode ⟨List.toArray s_0⟩ a0).1:Int)).bind fun(a3:Int)=>(if(0:Int)≤a3 then some (.inr (a0:Int))else(a2 (a0+(Utf8.decode ⟨List.toArray s_0⟩ a0).2))))else some (.inl ()))
def afm(fu:Nat)(s_0:Str)(a1:Str):Nat→Nat→Option (Unit⊕Int):=fun k_ a0=>loopF (fun(g:Nat→Option (Unit⊕Int)) v=>adb fu s_0 a1 (fun a0=>g a0) v) k_ a0
theorem age{fu:Nat}{s_0:Str}{a0:Str}{k_:Nat}{a1:Nat}:afm fu s_0 a0 (k_+1) a1=adb fu s_0 a0 (afm fu s_0 a0 k_) a1:=rfl
def aly(fu:Nat)(s_0:Str)(a0:Str):Option Int:=
 (if a0=([]:Str)then some (-1:Int)else(if(a0.length:Int)=(1:Int)then(gd (0≤(0:Int)∧(0:Int)<(a0.length:Int))<|(((if(128:Int)≤((at_ a0 (0:Int)).toNat:Int)then some (65533:Int)else some ((at_ a0 (0:Int)).toNat:Int))).bind fun(v8:Int)=>((acv fu s_0 v8).bind fun(a1:Int)=>some a1)))else((((aeu fu (s_0.length:Int)).bind fun(a2:Bool)=>(bif a2 then none else some ()))).bind fun(a4:Unit)=>(((afm fu s_0 a0 fu 0)).bind fun(a3:(Unit⊕Int))=>zaJ (fun(a5:Unit)=>some (-1:Int)) (fun q=>some q) a3))))
end Go.Wk
namespace Go.Px
open Go.Wk
theorem get_at(l:List UInt8)(k:Nat)(h:k<l.length):(⟨l.toArray⟩:ByteArray).get! k=at_ l (k:Int):=by
 show l.toArray[k]! =_
 simp [at_,h]
theorem dec_ascii(l:List UInt8)(k:Nat)(h:k<l.length)(h1:(at_ l (k:Int)).toNat<128):Utf8.decode ⟨l.toArray⟩ k=((at_ l (k:Int)).toNat,1):=by
 unfold Utf8.decode
 simp only [Nat.add_zero,get_at l k h]
 rw [if_pos (by omega)]
theorem dec_high(l:List UInt8)(k:Nat)(h:k<l.length)(h1:¬(at_ l (k:Int)).toNat<128):
  128≤(Utf8.decode ⟨l.toArray⟩ k).1∧1≤(Utf8.decode ⟨l.toArray⟩ k).2∧k+(Utf8.decode ⟨l.toArray⟩ k).2≤l.length∧
  ∀j:Nat,k≤j→j<k+(Utf8.decode ⟨l.toArray⟩ k).2→128≤(at_ l (j:Int)).toNat:=by
 have hsz:(⟨l.toArray⟩:ByteArray).size=l.length:=rfl
 have hone:∀c:Nat,128≤c→128≤((c,1):Nat×Nat).1∧1≤((c,1):Nat×Nat).2∧k+((c,1):Nat×Nat).2≤l.length∧∀j:Nat,k≤j→j<k+((c,1):Nat×Nat).2→128≤(at_ l (j:Int)).toNat:=
  fun c hc=>⟨hc,Nat.le_refl _,by simp;omega,fun j h2 h3=>by
   have:j=k:=by simp at h3;omega
   subst this;omega⟩
 have cont:∀i:Nat,(decide (k+i<l.length)&&((⟨l.toArray⟩:ByteArray).get! (k+i)).toNat/64==2)=true→k+i<l.length∧128≤(at_ l ((k+i:Nat):Int)).toNat:=by
  intro i hi
  simp only [Bool.and_eq_true,decide_eq_true_eq,beq_iff_eq]at hi
  rw [get_at l (k+i) hi.1]at hi
  omega
 have hre:128≤Utf8.runeError:=by decide
 have hk0:128≤(at_ l (k:Int)).toNat:=by omega
 unfold Utf8.decode
 simp only [Nat.add_zero,get_at l k h,hsz]
 rw [if_neg (by omega)]
 split
 ·rename_i h2
  simp only [Bool.and_eq_true]at h2
  have c1:=cont 1 (by simpa using h2.2)
  split
  ·rename_i h3
   refine⟨by simpa using h3,by simp,by simp;omega,fun j h4 h5=> ?_⟩
   have:j=k∨j=k+1:=by simp at h5;omega
   rcases this with rfl|rfl
   ·exact hk0
   ·exact c1.2
  ·exact hone _ hre
 split
 ·rename_i h2
  simp only [Bool.and_eq_true]at h2
  have c1:=cont 1 (by simpa using h2.1.2)
  have c2:=cont 2 (by simpa using h2.2)
  split
  ·rename_i h3
   simp only [Bool.and_eq_true,decide_eq_true_eq]at h3
   refine⟨by have:=h3.1;simp only [ge_iff_le]at this⊢;omega,by simp,by simp;omega,fun j h4 h5=> ?_⟩
   have:j=k∨j=k+1∨j=k+2:=by simp at h5;omega
   rcases this with rfl|rfl|rfl
   ·exact hk0
   ·exact c1.2
   ·exact c2.2
  ·exact hone _ hre
 split
 ·rename_i h2
  simp only [Bool.and_eq_true]at h2
  have c1:=cont 1 (by simpa using h2.1.1.2)
  have c2:=cont 2 (by simpa using h2.1.2)
  have c3:=cont 3 (by simpa using h2.2)
  split
  ·rename_i h3
   simp only [Bool.and_eq_true,decide_eq_true_eq]at h3
   refine⟨by have:=h3.1;simp only [ge_iff_le]at this⊢;omega,by simp,by simp;omega,fun j h4 h5=> ?_⟩
   have:j=k∨j=k+1∨j=k+2∨j=k+3:=by simp at h5;omega
   rcases this with rfl|rfl|rfl|rfl
   ·exact hk0
   ·exact c1.2
   ·exact c2.2
   ·exact c3.2
  ·exact hone _ hre
 ·exact hone _ hre
def encL(r:Int):List UInt8:=(Utf8.encode r).data.toList
theorem encL_high(r:Int)(h:128≤r):2≤(encL r).length∧(encL r).length≤4∧128≤(at_ (encL r) ((encL r).length-1:Int)).toNat:=by
 have hv:∀n:Nat,128≤(UInt8.ofNat (128+n%64)).toNat:=by
  intro n
  rw [UInt8.toNat_ofNat']
  omega
 unfold encL Utf8.encode
 have hc:128≤(if Utf8.valid r=true then r.toNat else Utf8.runeError):=by
  split
  ·omega
  ·decide
 generalize(if Utf8.valid r=true then r.toNat else Utf8.runeError)=c at hc
 simp only
 rw [if_neg (by omega)]
 split
 ·exact⟨by simp,by simp,hv c⟩
 split
 ·exact⟨by simp,by simp,hv c⟩
 ·exact⟨by simp,by simp,hv c⟩
end Go.Px
namespace Go.Wk
open Go.Px
open Int renaming toNat → zaj
open List renaming set → zaE
open Sum renaming elim → zaJ
def alz(fu:Nat)(a0:UInt8):Option Bool:=
 (((((if(97:UInt8)≤a0 then some (decide (a0≤(122:UInt8)))else some false)).bind fun(a1:Bool)=>(bif a1 then(bif a1 then some (.inr true)else some (.inl ()))else(((if(65:UInt8)≤a0 then some (decide (a0≤(90:UInt8)))else some false)).bind fun(a2:Bool)=>(bif a2 then(bif a2 then some (.inr true)else some (.inl ()))else(if(48:UInt8)≤a0 then(if a0≤(57:UInt8)then some (.inr true)else some (.inl ()))else some (.inl ()))))))).bind fun(a3:(Unit⊕Bool))=>zaJ (fun(a4:Unit)=>(if a0=(45:UInt8)then(if a0=(45:UInt8)then some true else some false)else(if a0=(46:UInt8)then(if a0=(46:UInt8)then some true else some false)else(if a0=(33:UInt8)then(if a0=(33:UInt8)then some true else some false)else(if a0=(37:UInt8)then(if a0=(37:UInt8)then some true else some false)else(if a0=(42:UInt8)then(if a0=(42:UInt8)then some true else some false)else(if a0=(95:UInt8)then(if a0=(95:UInt8)then some true else some false)else(if a0=(43:UInt8)then(if a0=(43:UInt8)then some true else some false)else(if a0=(39:UInt8)then(if a0=(39:UInt8)then some true else some false)else(if a0=(126:UInt8)then(if a0=(126:UInt8)then some true else some false)else(if a0=(96:UInt8)then some true else some false))))))))))) (fun q=>some q) a3)
def acn(fu:Nat)(s_0:Str)(a1:Int→Option Int)(a0:Int):Option Int:=
 (((if a0<(s_0.length:Int)then(gd (0≤a0∧a0<(s_0.length:Int))<|((alz fu (at_ s_0 a0)).bind fun(a2:Bool)=>some a2))else some false)).bind fun(a3:Bool)=>(bif a3 then(gd (aay (a0+(1:Int)))<|(a1 (a0+(1:Int))))else some a0))
def acr(fu:Nat)(s_0:Str):Nat→Int→Option Int:=fun k_ a0=>loopF (fun(g:Int→Option Int) v=>acn fu s_0 (fun a0=>g a0) v) k_ a0
theorem aib{fu:Nat}{s_0:Str}{k_:Nat}{a0:Int}:acr fu s_0 (k_+1) a0=acn fu s_0 (acr fu s_0 k_) a0:=rfl
def adp(fu:Nat)(s_0:Str)(a0:Int):Option Int:=
 (((acr fu s_0 fu (min (max a0 (0:Int)) (s_0.length:Int)))).bind fun(a1:Int)=>some a1)
def adq(fu:Nat)(s_0:Str)(a0:Int):Option Int:=
 ((adp fu s_0 a0).bind fun(y1:Int)=>some y1)
def aft(fu:Nat)(s_0:Str):Option Bool:=
 (((if s_0=([]:Str)then some false else((adq fu s_0 (0:Int)).bind fun(a0:Int)=>some (decide (a0=(s_0.length:Int)))))).bind fun(a1:Bool)=>some a1)
def amb(fu:Nat)(a0:UInt8):Option UInt8:=
 (((if(65:UInt8)≤a0 then some (decide (a0≤(90:UInt8)))else some false)).bind fun(v5:Bool)=>(bif v5 then some (a0+(32:UInt8))else some a0))
def atl(fu:Nat)(a0:UInt8):Option Str:=
 (if a0=(98:UInt8)then some ([82,101,102,101,114,114,101,100,45,66,121]:Str)else(if a0=(99:UInt8)then some ([67,111,110,116,101,110,116,45,84,121,112,101]:Str)else(if a0=(101:UInt8)then some ([67,111,110,116,101,110,116,45,69,110,99,111,100,105,110,103]:Str)else(if a0=(102:UInt8)then some ([70,114,111,109]:Str)else(if a0=(105:UInt8)then some ([67,97,108,108,45,73,68]:Str)else(if a0=(107:UInt8)then some ([83,117,112,112,111,114,116,101,100]:Str)else(if a0=(108:UInt8)then some ([67,111,110,116,101,110,116,45,76,101,110,103,116,104]:Str)else(if a0=(109:UInt8)then some ([67,111,110,116,97,99,116]:Str)else(if a0=(111:UInt8)then some ([69,118,101,110,116]:Str)else(if a0=(114:UInt8)then some ([82,101,102,101,114,45,84,111]:Str)else(if a0=(115:UInt8)then some ([83,117,98,106,101,99,116]:Str)else(if a0=(116:UInt8)then some ([84,111]:Str)else(if a0=(117:UInt8)then some ([65,108,108,111,119,45,69,118,101,110,116,115]:Str)else(if a0=(118:UInt8)then some ([86,105,97]:Str)else(if a0=(120:UInt8)then some ([83,101,115,115,105,111,110,45,69,120,112,105,114,101,115]:Str)else some ([]:Str))))))))))))))))
def amp(fu:Nat)(s_0:Str)(a2:Str→Int→Option Str)(a1:Str)(a0:Int):Option Str:=
 (if a0<(s_0.length:Int)then(gd (0≤a0∧a0<(a1.length:Int))<|(gd (0≤a0∧a0<(a1.length:Int))<|((amb fu (at_ a1 a0)).bind fun(a3:UInt8)=>(gd (0≤a0∧a0<(a1.length:Int))<|(gd (0≤a0∧a0<(a1.length:Int))<|(gd (aay (a0+(1:Int)))<|(a2 (zaE a1 (zaj a0) a3) (a0+(1:Int)))))))))else some a1)
def amy(fu:Nat)(s_0:Str):Nat→Str→Int→Option Str:=fun k_ a0 a1=>loopF (fun(g:(Str×Int)→Option Str) v=>amp fu s_0 (fun a0 a1=>g (a0,a1)) v.1 v.2) k_ (a0,a1)
def aek(fu:Nat)(s_0:Str):Option Str:=
 (((amy fu s_0 fu s_0 (0:Int))).bind fun(a0:Str)=>some a0)
def aox(fu:Nat)(a0:UInt8):Option UInt8:=
 (((if(97:UInt8)≤a0 then some (decide (a0≤(122:UInt8)))else some false)).bind fun(v5:Bool)=>(bif v5 then some (a0-(32:UInt8))else some a0))
def L_header_Canon_1(fu:Nat)(a0:UInt8)(a1:Bool):Option (UInt8×Bool):=
 (bif a1 then((aox fu a0).bind fun(y2:UInt8)=>some (y2,(decide (y2=(45:UInt8)))))else((amb fu a0).bind fun(y9:UInt8)=>some (y9,(decide (y9=(45:UInt8))))))
def anh(fu:Nat)(s_0:Str)(a4:Str→Int→Bool→Option (Str×Bool))(a1:Str)(a0:Int)(a2:Bool):Option (Str×Bool):=
 (if a0<(s_0.length:Int)then(gd (0≤a0∧a0<(a1.length:Int))<|(gd (0≤a0∧a0<(a1.length:Int))<|((L_header_Canon_1 fu (at_ a1 a0) a2).bind fun(a3:(UInt8×Bool))=>(gd (0≤a0∧a0<(a1.length:Int))<|(gd (0≤a0∧a0<(a1.length:Int))<|(gd (aay (a0+(1:Int)))<|(a4 (zaE a1 (zaj a0) a3.1) (a0+(1:Int)) a3.2)))))))else some (a1,a2))
def anm(fu:Nat)(s_0:Str):Nat→Str→Int→Bool→Option (Str×Bool):=fun k_ a0 a1 a2=>loopF (fun(g:(Str×Int×Bool)→Option (Str×Bool)) v=>anh fu s_0 (fun a0 a1 a2=>g (a0,a1,a2)) v.1 v.2.1 v.2.2) k_ (a0,a1,a2)
def ajz(fu:Nat)(s_0:Str)(a1:Bool):Option (Str×Bool):=
 (((anm fu s_0 fu s_0 (0:Int) a1)).bind fun(a0:(Str×Bool))=>some (a0.1,a0.2))
def L_header_Canon_lp0B(fu:Nat)(a1:Str)(a2:Int→Option (Unit⊕(Str×UInt8)))(a0:Int):Option (Unit⊕(Str×UInt8)):=
 (if a0<(7:Int)then(gd (0≤a0∧a0<(aob.length:Int))<|((aek fu (el aob a0)).bind fun(a3:Str)=>(if a3=a1 then some (.inr (el aob a0,(0:UInt8)))else(gd (aay (a0+(1:Int)))<|(a2 (a0+(1:Int)))))))else some (.inl ()))
def L_header_Canon_lp0(fu:Nat)(a1:Str):Nat→Int→Option (Unit⊕(Str×UInt8)):=fun k_ a0=>loopF (fun(g:Int→Option (Unit⊕(Str×UInt8))) v=>L_header_Canon_lp0B fu a1 (fun a0=>g a0) v) k_ a0
def ast(fu:Nat)(a0:Str):Option (Str×UInt8):=
 ((((aft fu a0).bind fun(a2:Bool)=>(bif (!a2)then some true else some (decide ((64:Int)<(a0.length:Int)))))).bind fun(a3:Bool)=>(bif a3 then some (([]:Str),(5:UInt8))else(((if(a0.length:Int)=(1:Int)then(gd (0≤(0:Int)∧(0:Int)<(a0.length:Int))<|((amb fu (at_ a0 (0:Int))).bind fun(a4:UInt8)=>((atl fu a4).bind fun(a1:Str)=>(if a1=([]:Str)then some (.inl ())else some (.inr (a1,(0:UInt8)))))))else some (.inl ()))).bind fun(a5:(Unit⊕(Str×UInt8)))=>zaJ (fun(a9:Unit)=>((aek fu a0).bind fun(a6:Str)=>(((L_header_Canon_lp0 fu a6 fu (0:Int))).bind fun(a7:(Unit⊕(Str×UInt8)))=>zaJ (fun(b0:Unit)=>((ajz fu a0 true).bind fun(a8:(Str×Bool))=>some (a8.1,(0:UInt8)))) (fun q=>some q) a7))) (fun q=>some q) a5)))
def L_header_kindOf_lp0B(fu:Nat)(a1:Str)(a2:Int→Option (Unit⊕Int))(a0:Int):Option (Unit⊕Int):=
 (if a0<(31:Int)then(gd (0≤a0∧a0<(31:Int))<|(gd (0≤a0∧a0<(asf.length:Int))<|(if((el asf a0).1)=a1 then(gd (0≤a0∧a0<(31:Int))<|(gd (0≤a0∧a0<(asf.length:Int))<|some (.inr ((el asf a0).2))))else(gd (aay (a0+(1:Int)))<|(a2 (a0+(1:Int)))))))else some (.inl ()))
def L_header_kindOf_lp0(fu:Nat)(a1:Str):Nat→Int→Option (Unit⊕Int):=fun k_ a0=>loopF (fun(g:Int→Option (Unit⊕Int)) v=>L_header_kindOf_lp0B fu a1 (fun a0=>g a0) v) k_ a0
def arr(fu:Nat)(a0:Str):Option Int:=
 (((L_header_kindOf_lp0 fu a0 fu (0:Int))).bind fun(a1:(Unit⊕Int))=>zaJ (fun(a2:Unit)=>some (0:Int)) (fun q=>some q) a1)
def L_header_many(fu:Nat)(a0:Str):Option Bool:=
 (((if a0=([67,111,110,116,97,99,116]:Str)then(if a0=([67,111,110,116,97,99,116]:Str)then some (.inr true)else some (.inl ()))else(if a0=([80,97,116,104]:Str)then(if a0=([80,97,116,104]:Str)then some (.inr true)else some (.inl ()))else(if a0=([82,101,99,111,114,100,45,82,111,117,116,101]:Str)then(if a0=([82,101,99,111,114,100,45,82,111,117,116,101]:Str)then some (.inr true)else some (.inl ()))else(if a0=([82,111,117,116,101]:Str)then(if a0=([82,111,117,116,101]:Str)then some (.inr true)else some (.inl ()))else(if a0=([83,101,114,118,105,99,101,45,82,111,117,116,101]:Str)then some (.inr true)else some (.inl ()))))))).bind fun(a2:(Unit⊕Bool))=>zaJ (fun(a4:Unit)=>((arr fu a0).bind fun(a1:Int)=>(((if a1=(2:Int)then some true else some (decide (a1=(7:Int))))).bind fun(a3:Bool)=>some a3))) (fun q=>some q) a2)
def aex(fu:Nat)(s_0:Str):Option Str:=
 (gd (s_0.length≤1000000000)<|gd (([32,9]:Str).length≤1000∧([32,9]:Str).all (fun b=>decide (b.toNat<128))=true)<|some (Lib.trimS s_0 ([32,9]:Str)))
def ajh(fu:Nat)(a0:UInt8):Option Bool:=
 (((if a0=(32:UInt8)then some true else some (decide (a0=(9:UInt8))))).bind fun(v5:Bool)=>some v5)
def abr(fu:Nat)(s_0:Str)(a1:Int→Option Int)(a0:Int):Option Int:=
 (((if a0<(s_0.length:Int)then(gd (0≤a0∧a0<(s_0.length:Int))<|((ajh fu (at_ s_0 a0)).bind fun(a2:Bool)=>some a2))else some false)).bind fun(a3:Bool)=>(bif a3 then(gd (aay (a0+(1:Int)))<|(a1 (a0+(1:Int))))else some a0))
def acs(fu:Nat)(s_0:Str):Nat→Int→Option Int:=fun k_ a0=>loopF (fun(g:Int→Option Int) v=>abr fu s_0 (fun a0=>g a0) v) k_ a0
theorem adx{fu:Nat}{s_0:Str}{k_:Nat}{a0:Int}:acs fu s_0 (k_+1) a0=abr fu s_0 (acs fu s_0 k_) a0:=rfl
def agj(fu:Nat)(s_0:Str)(a0:Int):Option Int:=
 (((acs fu s_0 fu (min (max a0 (0:Int)) (s_0.length:Int)))).bind fun(a1:Int)=>some a1)
def ajv(fu:Nat)(s_0:Str)(a0:Int):Option Int:=
 ((agj fu s_0 a0).bind fun(y1:Int)=>some y1)
def abi(fu:Nat)(a0:(Str×Int)):Option (Str×Int):=
 ((ajv fu a0.1 a0.2).bind fun(y1:Int)=>some (a0.1,y1))
def abz(fu:Nat)(a0:(Str×Int)):Option Bool:=
 some (decide ((a0.1.length:Int)≤a0.2))
def aad(fu:Nat)(a0:(Str×Int))(a1:UInt8):Option Bool:=
 ((((abz fu a0).bind fun(a2:Bool)=>(bif (!a2)then(gd (0≤a0.2∧a0.2<(a0.1.length:Int))<|some (decide ((at_ a0.1 a0.2)=a1)))else some false))).bind fun(a3:Bool)=>some a3)
def ake(fu:Nat)(a0:UInt8):Option Bool:=
 (((if(32:UInt8)≤a0 then some (decide (a0≤(126:UInt8)))else some false)).bind fun(v5:Bool)=>some v5)
def agm(fu:Nat)(a0:UInt8):Option Bool:=
 (((if a0<(32:UInt8)then(if a0=(9:UInt8)then some (decide (a0=(127:UInt8)))else some true)else some (decide (a0=(127:UInt8))))).bind fun(v6:Bool)=>some v6)
def agn(fu:Nat)(s_0:Str)(a2:(List UInt8)→Int→Option (((List UInt8)×Int)⊕(Str×Int×UInt8)))(a1:List UInt8)(a0:Int):Option (((List UInt8)×Int)⊕(Str×Int×UInt8)):=
 (if a0<(s_0.length:Int)then(gd (0≤a0∧a0<(s_0.length:Int))<|(if(at_ s_0 a0)=(34:UInt8)then some (.inl (a1,a0))else(if(at_ s_0 a0)=(92:UInt8)then(gd (aay (a0+(1:Int)))<|(if(a0+(1:Int))=(s_0.length:Int)then some (.inr (([]:Str),(s_0.length:Int),(6:UInt8)))else(gd (aay (a0+(1:Int)))<|(gd (0≤(a0+(1:Int))∧(a0+(1:Int))<(s_0.length:Int))<|((ake fu (at_ s_0 (a0+(1:Int)))).bind fun(a3:Bool)=>(bif (!a3)then some (.inr (([]:Str),a0,(5:UInt8)))else(gd (aay (a0+(1:Int)))<|(gd (0≤(a0+(1:Int))∧(a0+(1:Int))<(s_0.length:Int))<|(gd ((a1.length+([at_ s_0 (a0+(1:Int))]:List UInt8).length)*1≤140737488355328)<|(gd (aay ((a0+(1:Int))+(1:Int)))<|(a2 (a1++([at_ s_0 (a0+(1:Int))]:List UInt8)) ((a0+(1:Int))+(1:Int)))))))))))))else((agm fu (at_ s_0 a0)).bind fun(a4:Bool)=>(bif a4 then some (.inr (([]:Str),a0,(5:UInt8)))else(gd (0≤a0∧a0<(s_0.length:Int))<|(gd ((a1.length+([at_ s_0 a0]:List UInt8).length)*1≤140737488355328)<|(gd (aay (a0+(1:Int)))<|(a2 (a1++([at_ s_0 a0]:List UInt8)) (a0+(1:Int)))))))))))else some (.inl (a1,a0)))
def alg(fu:Nat)(s_0:Str):Nat→(List UInt8)→Int→Option (((List UInt8)×Int)⊕(Str×Int×UInt8)):=fun k_ a0 a1=>loopF (fun(g:((List UInt8)×Int)→Option (((List UInt8)×Int)⊕(Str×Int×UInt8))) v=>agn fu s_0 (fun a0 a1=>g (a0,a1)) v.1 v.2) k_ (a0,a1)
theorem amm{fu:Nat}{s_0:Str}{k_:Nat}{a0:List UInt8}{a1:Int}:alg fu s_0 (k_+1) a0 a1=agn fu s_0 (alg fu s_0 k_) a0 a1:=rfl
def aks(fu:Nat)(s_0:Str)(a0:Int):Option (Str×Int×UInt8):=
 (((if a0<(0:Int)then some true else some (decide ((s_0.length:Int)<a0)))).bind fun(v5:Bool)=>(bif v5 then some (([]:Str),(0:Int),(2:UInt8))else(((if a0=(s_0.length:Int)then some true else(gd (0≤a0∧a0<(s_0.length:Int))<|some (!decide ((at_ s_0 a0)=(34:UInt8)))))).bind fun(a2:Bool)=>(bif a2 then some (([]:Str),a0,(5:UInt8))else(gd (aay (a0+(1:Int)))<|(((alg fu s_0 fu ([]:List UInt8) (a0+(1:Int)))).bind fun(a3:(((List UInt8)×Int)⊕(Str×Int×UInt8)))=>zaJ (fun(a1:((List UInt8)×Int))=>(if(s_0.length:Int)≤a1.2 then some (([]:Str),(s_0.length:Int),(6:UInt8))else(gd (aay (a1.2+(1:Int)))<|some (a1.1,a1.2+(1:Int),(0:UInt8))))) (fun q=>some q) a3))))))
def afb(fu:Nat)(a1:(Str×Int))(a0:(Str×(Str×Str×Str×Int×(List PQ)×(List PQ))×(List PQ))):Option (Int×UInt8×(Str×Int)×(Str×(Str×Str×Str×Int×(List PQ)×(List PQ))×(List PQ))):=
 ((aks fu a1.1 a1.2).bind fun(y1:(Str×Int×UInt8))=>(if y1.2.2=(0:UInt8)then((abi fu (a1.1,y1.2.1)).bind fun(a2:(Str×Int))=>((aad fu a2 (60:UInt8)).bind fun(a3:Bool)=>(bif (!a3)then some (a2.2,(5:UInt8),a2,(y1.1,a0.2.1,a0.2.2))else some ((0:Int),(0:UInt8),a2,(y1.1,a0.2.1,a0.2.2)))))else some (y1.2.1,y1.2.2,a1,a0)))
open Go.Lib renaming indexAny → zbe, join → zau
open List renaming drop → zax, set → zaE
def adk(fu:Nat)(a0:(Str×Int)):Option (Str×(Str×Int)):=
 ((adq fu a0.1 a0.2).bind fun(y1:Int)=>(gd (0≤a0.2∧a0.2≤y1∧y1≤(a0.1.length:Int))<|some (sub a0.1 a0.2 y1,(a0.1,y1))))
def ade(fu:Nat)(a5:(Str×(Str×Str×Str×Int×(List PQ)×(List PQ))×(List PQ)))(a6:(List Str)→Str→Int→Option (((List Str)×Str×Int)⊕(Int×UInt8×(Str×Int)×(Str×(Str×Str×Str×Int×(List PQ)×(List PQ))×(List PQ)))))(a1:List Str)(a2:Str)(a3:Int):Option (((List Str)×Str×Int)⊕(Int×UInt8×(Str×Int)×(Str×(Str×Str×Str×Int×(List PQ)×(List PQ))×(List PQ)))):=
 ((aad fu (a2,a3) (60:UInt8)).bind fun(a7:Bool)=>(bif (!a7)then((adk fu (a2,a3)).bind fun(a0:(Str×(Str×Int)))=>(if a0.1=([]:Str)then some (.inr (a0.2.2,(5:UInt8),a0.2,a5))else(gd ((a1.length+([a0.1]:List Str).length)*16≤140737488355328)<|((abi fu a0.2).bind fun(a4:(Str×Int))=>(a6 (a1++([a0.1]:List Str)) a4.1 a4.2)))))else some (.inl (a1,a2,a3))))
def adi(fu:Nat)(a3:(Str×(Str×Str×Str×Int×(List PQ)×(List PQ))×(List PQ))):Nat→(List Str)→Str→Int→Option (((List Str)×Str×Int)⊕(Int×UInt8×(Str×Int)×(Str×(Str×Str×Str×Int×(List PQ)×(List PQ))×(List PQ)))):=fun k_ a0 a1 a2=>loopF (fun(g:((List Str)×Str×Int)→Option (((List Str)×Str×Int)⊕(Int×UInt8×(Str×Int)×(Str×(Str×Str×Str×Int×(List PQ)×(List PQ))×(List PQ))))) v=>ade fu a3 (fun a0 a1 a2=>g (a0,a1,a2)) v.1 v.2.1 v.2.2) k_ (a0,a1,a2)
theorem aka{fu:Nat}{a0:(Str×(Str×Str×Str×Int×(List PQ)×(List PQ))×(List PQ))}{k_:Nat}{a1:List Str}{a2:Str}{a3:Int}:adi fu a0 (k_+1) a1 a2 a3=ade fu a0 (adi fu a0 k_) a1 a2 a3:=rfl
def acg(fu:Nat)(a2:(Str×Int))(a1:(Str×(Str×Str×Str×Int×(List PQ)×(List PQ))×(List PQ))):Option (Int×UInt8×(Str×Int)×(Str×(Str×Str×Str×Int×(List PQ)×(List PQ))×(List PQ))):=
 (((adi fu a1 fu ([]:List Str) a2.1 a2.2)).bind fun(a3:(((List Str)×Str×Int)⊕(Int×UInt8×(Str×Int)×(Str×(Str×Str×Str×Int×(List PQ)×(List PQ))×(List PQ)))))=>zaJ (fun(a0:((List Str)×Str×Int))=>(gd (a0.1.length≤1000000000∧(zau a0.1 ([32]:Str)).length≤100000000000)<|some ((0:Int),(0:UInt8),a0.2,(zau a0.1 ([32]:Str),a1.2.1,a1.2.2)))) (fun q=>some q) a3)
def aai(fu:Nat)(a1:Str)(a0:Int)(a2:Str):Option Int:=
 (gd (0≤a0∧a0≤(a1.length:Int))<|(gd ((zax (zaj a0) a1).length≤1000000000∧a2.length≤1000∧a2.all (fun b=>decide (b.toNat<128))=true)<|(if(0:Int)≤(zbe (zax (zaj a0) a1) a2)then(gd (aay (a0+(zbe (zax (zaj a0) a1) a2)))<|some (a0+(zbe (zax (zaj a0) a1) a2)))else some (a1.length:Int))))
def akh(fu:Nat)(s_0:Str)(a2:Str→Int→Option Str)(a1:Str)(a0:Int):Option Str:=
 (if a0<(s_0.length:Int)then(gd (0≤a0∧a0<(a1.length:Int))<|(gd (0≤a0∧a0<(a1.length:Int))<|(((if(65:UInt8)≤(at_ a1 a0)then some (decide ((at_ a1 a0)≤(90:UInt8)))else some false)).bind fun(a3:Bool)=>(bif a3 then(gd (0≤a0∧a0<(a1.length:Int))<|(gd (0≤a0∧a0<(a1.length:Int))<|(gd (aay (a0+(1:Int)))<|(a2 (zaE a1 (zaj a0) ((at_ a1 a0)+(32:UInt8))) (a0+(1:Int))))))else(gd (aay (a0+(1:Int)))<|(a2 a1 (a0+(1:Int))))))))else some a1)
def alh(fu:Nat)(s_0:Str):Nat→Str→Int→Option Str:=fun k_ a0 a1=>loopF (fun(g:(Str×Int)→Option Str) v=>akh fu s_0 (fun a0 a1=>g (a0,a1)) v.1 v.2) k_ (a0,a1)
theorem aqh{fu:Nat}{s_0:Str}{k_:Nat}{a0:Str}{a1:Int}:alh fu s_0 (k_+1) a0 a1=akh fu s_0 (alh fu s_0 k_) a0 a1:=rfl
def abn(fu:Nat)(s_0:Str):Option Str:=
 (((alh fu s_0 fu s_0 (0:Int))).bind fun(a0:Str)=>some a0)
def aiy(fu:Nat)(a0:UInt8):Option Bool:=
 (((if(97:UInt8)≤a0 then(if a0≤(122:UInt8)then some true else(if(65:UInt8)≤a0 then some (decide (a0≤(90:UInt8)))else some false))else(if(65:UInt8)≤a0 then some (decide (a0≤(90:UInt8)))else some false))).bind fun(v8:Bool)=>some v8)
def acl(fu:Nat)(a0:UInt8):Option Bool:=
 (((if(48:UInt8)≤a0 then some (decide (a0≤(57:UInt8)))else some false)).bind fun(v5:Bool)=>some v5)
def akv(fu:Nat)(a1:UInt8)(a0:Int):Option Bool:=
 ((((aiy fu a1).bind fun(a2:Bool)=>(bif a2 then some true else((acl fu a1).bind fun(a3:Bool)=>(bif a3 then some true else some (decide ((0:Int)≤(ixb (·==a1) ([45,95,46,33,126,42,39,40,41]:Str))))))))).bind fun(a4:Bool)=>(bif a4 then some true else(((if(0:Int)≤a0 then(if a0≤(2:Int)then(gd (0≤a0∧a0<(3:Int))<|(gd (0≤a0∧a0<(alo.length:Int))<|some (decide ((0:Int)≤(ixb (·==a1) (el alo a0))))))else some false)else some false)).bind fun(a5:Bool)=>some a5)))
def adh(fu:Nat)(a0:UInt8):Option (UInt8×Bool):=
 ((acl fu a0).bind fun(y1:Bool)=>(bif y1 then some (a0-(48:UInt8),true)else(((if(97:UInt8)≤a0 then some (decide (a0≤(102:UInt8)))else some false)).bind fun(a1:Bool)=>(bif a1 then some ((a0-(97:UInt8))+(10:UInt8),true)else(((if(65:UInt8)≤a0 then some (decide (a0≤(70:UInt8)))else some false)).bind fun(a2:Bool)=>(bif a2 then some ((a0-(65:UInt8))+(10:UInt8),true)else some ((0:UInt8),false)))))))
open Go.Lib renaming cut → zbg, itoa → zaZ, join → zau, trimLeftS → zbn
def ajk(fu:Nat)(s_0:Str)(a0:Int):Option (UInt8×Bool):=
 (((gd (aay (a0+(2:Int)))<|(if(s_0.length:Int)≤(a0+(2:Int))then some true else(gd (0≤a0∧a0<(s_0.length:Int))<|some (!decide ((at_ s_0 a0)=(37:UInt8))))))).bind fun(v7:Bool)=>(bif v7 then some ((0:UInt8),false)else(gd (aay (a0+(1:Int)))<|(gd (0≤(a0+(1:Int))∧(a0+(1:Int))<(s_0.length:Int))<|((adh fu (at_ s_0 (a0+(1:Int)))).bind fun(a1:(UInt8×Bool))=>(gd (aay (a0+(2:Int)))<|(gd (0≤(a0+(2:Int))∧(a0+(2:Int))<(s_0.length:Int))<|((adh fu (at_ s_0 (a0+(2:Int)))).bind fun(a2:(UInt8×Bool))=>(((bif a1.2 then some a2.2 else some false)).bind fun(a3:Bool)=>some ((shl8 a1.1 (4:Int))|||a2.1,a3))))))))))
def anb(fu:Nat)(a0:UInt8):Option Bool:=
 (((if a0<(32:UInt8)then(if a0=(9:UInt8)then some (decide (a0=(127:UInt8)))else some true)else some (decide (a0=(127:UInt8))))).bind fun(v6:Bool)=>some v6)
def acx(fu:Nat)(a1:(Str×Int))(a2:Int)(a5:Int)(a3:Int→Option (Unit⊕(Int×Bool)))(a0:Int):Option (Unit⊕(Int×Bool)):=
 (if a0<a2 then(gd (0≤a0∧a0<(a1.1.length:Int))<|((akv fu (at_ a1.1 a0) a5).bind fun(a6:Bool)=>(bif a6 then(gd (aay (a0+(1:Int)))<|(a3 (a0+(1:Int))))else(gd (0≤a2∧a2≤(a1.1.length:Int))<|((ajk fu (List.take (zaj a2) a1.1) a0).bind fun(a4:(UInt8×Bool))=>(((bif (!a4.2)then some true else((anb fu a4.1).bind fun(a7:Bool)=>some a7))).bind fun(a8:Bool)=>(bif a8 then some (.inr (a0,true))else(gd (aay (a0+(2:Int)))<|(gd (aay ((a0+(2:Int))+(1:Int)))<|(a3 ((a0+(2:Int))+(1:Int))))))))))))else some (.inl ()))
def afk(fu:Nat)(a1:(Str×Int))(a2:Int)(a3:Int):Nat→Int→Option (Unit⊕(Int×Bool)):=fun k_ a0=>loopF (fun(g:Int→Option (Unit⊕(Int×Bool))) v=>acx fu a1 a2 a3 (fun a0=>g a0) v) k_ a0
theorem agv{fu:Nat}{a0:(Str×Int)}{a1:Int}{a2:Int}{k_:Nat}{a3:Int}:afk fu a0 a1 a2 (k_+1) a3=acx fu a0 a1 a2 (afk fu a0 a1 a2 k_) a3:=rfl
def adj(fu:Nat)(a0:(Str×Int))(a1:Int)(a2:Int):Option (Int×Bool):=
 (((afk fu a0 a1 a2 fu a0.2)).bind fun(a3:(Unit⊕(Int×Bool)))=>zaJ (fun(a4:Unit)=>some ((0:Int),false)) (fun q=>some q) a3)
def afd(fu:Nat)(s_0:Str)(a3:(List UInt8)→Int→Option ((List UInt8)⊕(Str×Int×UInt8)))(a1:List UInt8)(a0:Int):Option ((List UInt8)⊕(Str×Int×UInt8)):=
 (if a0<(s_0.length:Int)then(gd (0≤a0∧a0<(s_0.length:Int))<|(if(at_ s_0 a0)=(37:UInt8)then((ajk fu s_0 a0).bind fun(a2:(UInt8×Bool))=>(bif (!a2.2)then some (.inr (([]:Str),a0,(5:UInt8)))else(gd ((a1.length+([a2.1]:List UInt8).length)*1≤140737488355328)<|(gd (aay (a0+(2:Int)))<|(gd (aay ((a0+(2:Int))+(1:Int)))<|(a3 (a1++([a2.1]:List UInt8)) ((a0+(2:Int))+(1:Int))))))))else(gd (0≤a0∧a0<(s_0.length:Int))<|(gd ((a1.length+([at_ s_0 a0]:List UInt8).length)*1≤140737488355328)<|(gd (aay (a0+(1:Int)))<|(a3 (a1++([at_ s_0 a0]:List UInt8)) (a0+(1:Int))))))))else some (.inl a1))
def afo(fu:Nat)(s_0:Str):Nat→(List UInt8)→Int→Option ((List UInt8)⊕(Str×Int×UInt8)):=fun k_ a0 a1=>loopF (fun(g:((List UInt8)×Int)→Option ((List UInt8)⊕(Str×Int×UInt8))) v=>afd fu s_0 (fun a0 a1=>g (a0,a1)) v.1 v.2) k_ (a0,a1)
theorem aky{fu:Nat}{s_0:Str}{k_:Nat}{a0:List UInt8}{a1:Int}:afo fu s_0 (k_+1) a0 a1=afd fu s_0 (afo fu s_0 k_) a0 a1:=rfl
def apa(fu:Nat)(s_0:Str):Option (Str×Int×UInt8):=
 (@gd _ (0≤(s_0.length:Int)∧(1:Int)*(s_0.length:Int)≤281474976710656) (dMk 1 (s_0.length:Int))<|(((afo fu s_0 fu ([]:List UInt8) (0:Int))).bind fun(a0:((List UInt8)⊕(Str×Int×UInt8)))=>zaJ (fun(a1:List UInt8)=>some (a1,(0:Int),(0:UInt8))) (fun q=>some q) a0))
def ahk(fu:Nat)(s_0:Str):Option Str:=
 ((apa fu s_0).bind fun(y1:(Str×Int×UInt8))=>some y1.1)
def aeg(fu:Nat)(a1:List Str)(a2:Int)(a3:Int→Option (Unit⊕((List Str)×Bool)))(a0:Int):Option (Unit⊕((List Str)×Bool)):=
 (if a0<((el a1 a2).length:Int)then(gd (0≤a0∧a0<((el a1 a2).length:Int))<|((adh fu (at_ (el a1 a2) a0)).bind fun(a4:(UInt8×Bool))=>(bif (!a4.2)then some (.inr (([]:List Str),false))else(gd (aay (a0+(1:Int)))<|(a3 (a0+(1:Int)))))))else some (.inl ()))
def aez(fu:Nat)(a1:List Str)(a2:Int):Nat→Int→Option (Unit⊕((List Str)×Bool)):=fun k_ a0=>loopF (fun(g:Int→Option (Unit⊕((List Str)×Bool))) v=>aeg fu a1 a2 (fun a0=>g a0) v) k_ a0
theorem ajx{fu:Nat}{a0:List Str}{a1:Int}{k_:Nat}{a2:Int}:aez fu a0 a1 (k_+1) a2=aeg fu a0 a1 (aez fu a0 a1 k_) a2:=rfl
def agf(fu:Nat)(s_0:Str)(a3:(List Str)→Int→Option ((List Str)⊕((List Str)×Bool)))(a1:List Str)(a0:Int):Option ((List Str)⊕((List Str)×Bool)):=
 (if a0<((spl 58 s_0).length:Int)then(((gd (0≤a0∧a0<(a1.length:Int))<|(gd (0≤a0∧a0<(a1.length:Int))<|(((if((el a1 a0).length:Int)<(1:Int)then some true else some (decide ((4:Int)<((el a1 a0).length:Int))))).bind fun(a4:Bool)=>(bif a4 then some (.inr (([]:List Str),false))else(((aez fu a1 a0 fu (0:Int))).bind fun(a5:(Unit⊕((List Str)×Bool)))=>zaJ (fun(a8:Unit)=>((abn fu (el a1 a0)).bind fun(a2:Str)=>(gd (a2.length≤1000000000)<|gd (([48]:Str).length≤1000∧([48]:Str).all (fun b=>decide (b.toNat<128))=true)<|(if(zbn a2 ([48]:Str))=([]:Str)then(gd (0≤a0∧a0<(a1.length:Int))<|(gd (0≤a0∧a0<(a1.length:Int))<|some (.inl (zaE a1 (zaj a0) ([48]:Str)))))else(gd (0≤a0∧a0<(a1.length:Int))<|(gd (0≤a0∧a0<(a1.length:Int))<|some (.inl (zaE a1 (zaj a0) (zbn a2 ([48]:Str)))))))))) (fun q=>some (.inr q)) a5)))))).bind fun(a6:((List Str)⊕((List Str)×Bool)))=>zaJ (fun(a7:List Str)=>(gd (aay (a0+(1:Int)))<|(a3 a7 (a0+(1:Int))))) (fun q=>some (.inr q)) a6)else some (.inl a1))
def adc(fu:Nat)(s_0:Str):Nat→(List Str)→Int→Option ((List Str)⊕((List Str)×Bool)):=fun k_ a0 a1=>loopF (fun(g:((List Str)×Int)→Option ((List Str)⊕((List Str)×Bool))) v=>agf fu s_0 (fun a0 a1=>g (a0,a1)) v.1 v.2) k_ (a0,a1)
theorem ano{fu:Nat}{s_0:Str}{k_:Nat}{a0:List Str}{a1:Int}:adc fu s_0 (k_+1) a0 a1=agf fu s_0 (adc fu s_0 k_) a0 a1:=rfl
def ady(fu:Nat)(s_0:Str):Option ((List Str)×Bool):=
 (gd (s_0.length≤1000000000)<|(((adc fu s_0 fu (spl 58 s_0) (0:Int))).bind fun(a0:((List Str)⊕((List Str)×Bool)))=>zaJ (fun(a1:List Str)=>some (a1,true)) (fun q=>some q) a0))
def ans(fu:Nat)(s_0:Str):Option (Str×Bool):=
 (if(39:Int)<(s_0.length:Int)then some (([]:Str),false)else(gd (s_0.length≤1000000000)<|(bif (!((zbg s_0 ([58,58]:Str)).2.2))then((ady fu s_0).bind fun(y7:((List Str)×Bool))=>(((gd (y7.1.length≤1000000000∧(zau y7.1 ([58]:Str)).length≤100000000000)<|(bif y7.2 then some (zau y7.1 ([58]:Str),(decide ((y7.1.length:Int)=(8:Int))))else some (zau y7.1 ([58]:Str),false)))).bind fun(a2:(Str×Bool))=>some (a2.1,a2.2)))else(((if((zbg s_0 ([58,58]:Str)).1)=([]:Str)then some (([]:List Str),true)else((ady fu ((zbg s_0 ([58,58]:Str)).1)).bind fun(a3:((List Str)×Bool))=>some (a3.1,a3.2)))).bind fun(a0:((List Str)×Bool))=>(((if((zbg s_0 ([58,58]:Str)).2.1)=([]:Str)then some (([]:List Str),true)else((ady fu ((zbg s_0 ([58,58]:Str)).2.1)).bind fun(a4:((List Str)×Bool))=>some (a4.1,a4.2)))).bind fun(a1:((List Str)×Bool))=>(((bif (!a0.2)then some true else(bif (!a1.2)then some true else(gd (aay ((a0.1.length:Int)+(a1.1.length:Int)))<|some (decide ((7:Int)<((a0.1.length:Int)+(a1.1.length:Int)))))))).bind fun(a5:Bool)=>(bif a5 then some (([]:Str),false)else(gd (a0.1.length≤1000000000∧(zau a0.1 ([58]:Str)).length≤100000000000)<|(gd ((zau a0.1 ([58]:Str)).length+([58,58]:Str).length≤9223372036854775807)<|(gd (a1.1.length≤1000000000∧(zau a1.1 ([58]:Str)).length≤100000000000)<|(gd (((zau a0.1 ([58]:Str))++([58,58]:Str)).length+(zau a1.1 ([58]:Str)).length≤9223372036854775807)<|some (((zau a0.1 ([58]:Str))++([58,58]:Str))++(zau a1.1 ([58]:Str)),true))))))))))))
def aid(fu:Nat)(s_0:Str)(a1:Int)(a3:Int→Int→Option (Int⊕Bool))(a2:Int)(a0:Int):Option (Int⊕Bool):=
 (if a0<((el (spl 46 s_0) a1).length:Int)then(gd (0≤a0∧a0<((el (spl 46 s_0) a1).length:Int))<|((acl fu (at_ (el (spl 46 s_0) a1) a0)).bind fun(a4:Bool)=>(bif (!a4)then some (.inr false)else(gd (aay ((10:Int)*a2))<|(gd (0≤a0∧a0<((el (spl 46 s_0) a1).length:Int))<|(gd (aay (((10:Int)*a2)+(((at_ (el (spl 46 s_0) a1) a0)-(48:UInt8)).toNat:Int)))<|(gd (aay (a0+(1:Int)))<|(a3 (((10:Int)*a2)+(((at_ (el (spl 46 s_0) a1) a0)-(48:UInt8)).toNat:Int)) (a0+(1:Int))))))))))else some (.inl a2))
def afw(fu:Nat)(s_0:Str)(a2:Int):Nat→Int→Int→Option (Int⊕Bool):=fun k_ a0 a1=>loopF (fun(g:(Int×Int)→Option (Int⊕Bool)) v=>aid fu s_0 a2 (fun a0 a1=>g (a0,a1)) v.1 v.2) k_ (a0,a1)
theorem aoy{fu:Nat}{s_0:Str}{a0:Int}{k_:Nat}{a1:Int}{a2:Int}:afw fu s_0 a0 (k_+1) a1 a2=aid fu s_0 a0 (afw fu s_0 a0 k_) a1 a2:=rfl
def aie(fu:Nat)(s_0:Str)(a2:Int→Option (Unit⊕Bool))(a0:Int):Option (Unit⊕Bool):=
 (if a0<((spl 46 s_0).length:Int)then(((gd (0≤a0∧a0<((spl 46 s_0).length:Int))<|(gd (0≤a0∧a0<((spl 46 s_0).length:Int))<|(((afw fu s_0 a0 fu (0:Int) (0:Int))).bind fun(a3:(Int⊕Bool))=>zaJ (fun(a1:Int)=>(((if(el (spl 46 s_0) a0)=([]:Str)then some true else(if(255:Int)<a1 then some true else(gd (aay a1)<|some (!decide ((el (spl 46 s_0) a0)=(zaZ a1))))))).bind fun(a4:Bool)=>(bif a4 then some (.inr false)else some (.inl ())))) (fun q=>some (.inr q)) a3)))).bind fun(a5:(Unit⊕Bool))=>zaJ (fun(a6:Unit)=>(gd (aay (a0+(1:Int)))<|(a2 (a0+(1:Int))))) (fun q=>some (.inr q)) a5)else some (.inl ()))
def afx(fu:Nat)(s_0:Str):Nat→Int→Option (Unit⊕Bool):=fun k_ a0=>loopF (fun(g:Int→Option (Unit⊕Bool)) v=>aie fu s_0 (fun a0=>g a0) v) k_ a0
theorem aoz{fu:Nat}{s_0:Str}{k_:Nat}{a0:Int}:afx fu s_0 (k_+1) a0=aie fu s_0 (afx fu s_0 k_) a0:=rfl
def amz(fu:Nat)(s_0:Str):Option Bool:=
 (if(15:Int)<(s_0.length:Int)then some false else(gd (s_0.length≤1000000000)<|(((afx fu s_0 fu (0:Int))).bind fun(a0:(Unit⊕Bool))=>zaJ (fun(a1:Unit)=>some (decide (((spl 46 s_0).length:Int)=(4:Int)))) (fun q=>some q) a0)))
open Go.Lib renaming index → zaH
open List renaming drop → zax
def alw(fu:Nat)(s_0:Str)(a0:Str)(a1:Int):Option (Str×Str×Int):=
 some (a0,s_0,a1)
def alx(fu:Nat)(s_0:Str)(a0:Str):Option (Str×Str×Int):=
 ((alw fu s_0 a0 (0:Int)).bind fun(y1:(Str×Str×Int))=>some (y1.1,y1.2.1,y1.2.2))
def aef(fu:Nat)(a1:Str)(a4:Bool)(a3:Int→Bool→Option ((Nat×Bool×Bool)))(a0:Int)(a2:Bool):Option ((Nat×Bool×Bool)):=
 (if a0<(a1.length:Int)then(gd (0≤a0∧a0<(a1.length:Int))<|((((aiy fu (at_ a1 a0)).bind fun(a5:Bool)=>(bif (!a5)then((acl fu (at_ a1 a0)).bind fun(a6:Bool)=>(bif (!a6)then some (!decide ((at_ a1 a0)=(45:UInt8)))else some false))else some false))).bind fun(a7:Bool)=>(bif a7 then some (1,a2,false)else(bif a2 then(gd (aay (a0+(1:Int)))<|(a3 (a0+(1:Int)) true))else((acl fu (at_ a1 a0)).bind fun(a8:Bool)=>(gd (aay (a0+(1:Int)))<|(a3 (a0+(1:Int)) (!a8))))))))else some (0,a2,a4))
def abk(fu:Nat)(a2:Str)(a3:Bool):Nat→Int→Bool→Option ((Nat×Bool×Bool)):=fun k_ a0 a1=>loopF (fun(g:(Int×Bool)→Option ((Nat×Bool×Bool))) v=>aef fu a2 a3 (fun a0 a1=>g (a0,a1)) v.1 v.2) k_ (a0,a1)
theorem ajw{fu:Nat}{a0:Str}{a1:Bool}{k_:Nat}{a2:Int}{a3:Bool}:abk fu a0 a1 (k_+1) a2 a3=aef fu a0 a1 (abk fu a0 a1 k_) a2 a3:=rfl
def ack(fu:Nat)(a0:Str)(a1:Bool)(a2:Bool):Option (Nat×Bool×Bool):=
 (((if(a0.length:Int)<(1:Int)then some true else(if(63:Int)<(a0.length:Int)then some true else(gd (0≤(0:Int)∧(0:Int)<(a0.length:Int))<|(if(at_ a0 (0:Int))=(45:UInt8)then some true else(gd (aay ((a0.length:Int)-(1:Int)))<|(gd (0≤((a0.length:Int)-(1:Int))∧((a0.length:Int)-(1:Int))<(a0.length:Int))<|some (decide ((at_ a0 ((a0.length:Int)-(1:Int)))=(45:UInt8)))))))))).bind fun(a3:Bool)=>(bif a3 then some (1,a1,false)else(abk fu a0 a2 fu (0:Int) a1)))
def aci(fu:Nat)(a0:Str)(a1:Option Unit):Option Unit:=
 (if(0:Int)<(a0.length:Int)then none else some ())
def abl(fu:Nat)(a0:Str):Nat→Option Unit:=fun k_=>loopF (fun(g:Unit→Option Unit) v=>aci fu a0 (g ())) k_ ()
theorem alb{fu:Nat}{a0:Str}{k_:Nat}:abl fu a0 (k_+1)=aci fu a0 (abl fu a0 k_):=rfl
def aaz(fu:Nat)(a1:Str)(a3:Int)(a6:Bool→Bool→Str→Option ((Bool×Bool×Str)⊕(Bool×Bool×Str×Nat)))(a4:Bool)(a5:Bool)(a0:Str):Option ((Bool×Bool×Str)⊕(Bool×Bool×Str×Nat)):=
 (gd (a0.length≤1000000000)<|(if(zaH a0 a1)<(0:Int)then some (.inl (a4,a5,a0))else(gd (aay ((zaH a0 a1)+a3))<|(gd (0≤((zaH a0 a1)+a3)∧((zaH a0 a1)+a3)≤(a0.length:Int))<|((ack fu (List.take (zaj ((zaH a0 a1)+a3)) a0) a4 a5).bind fun(a2:(Nat×Bool×Bool))=>(if a2.1=0 then(gd (aay ((zaH a0 a1)+(a1.length:Int)))<|(gd (0≤((zaH a0 a1)+(a1.length:Int))∧((zaH a0 a1)+(a1.length:Int))≤(a0.length:Int))<|(a6 a2.2.1 a2.2.2 (zax (zaj ((zaH a0 a1)+(a1.length:Int))) a0))))else some (.inr (a2.2.1,a2.2.2,a0,a2.1))))))))
def abc(fu:Nat)(a3:Str)(a4:Int):Nat→Bool→Bool→Str→Option ((Bool×Bool×Str)⊕(Bool×Bool×Str×Nat)):=fun k_ a0 a1 a2=>loopF (fun(g:(Bool×Bool×Str)→Option ((Bool×Bool×Str)⊕(Bool×Bool×Str×Nat))) v=>aaz fu a3 a4 (fun a0 a1 a2=>g (a0,a1,a2)) v.1 v.2.1 v.2.2) k_ (a0,a1,a2)
theorem ace{fu:Nat}{a0:Str}{a1:Int}{k_:Nat}{a2:Bool}{a3:Bool}{a4:Str}:abc fu a0 a1 (k_+1) a2 a3 a4=aaz fu a0 a1 (abc fu a0 a1 k_) a2 a3 a4:=rfl
def abw(fu:Nat)(a3:Bool)(a4:Bool)(a5:Str)(a2:Str)(a6:Int):Option (Bool×Bool×Str×Nat):=
 (((if(a5.length:Int)=(0:Int)then(((abl fu a2 fu)).bind fun(a9:Unit)=>some (.inr (a3,a4,a2,0)))else some (.inl ()))).bind fun(a7:(Unit⊕(Bool×Bool×Str×Nat)))=>zaJ (fun(b0:Unit)=>(((abc fu a5 a6 fu a3 a4 a2)).bind fun(a8:((Bool×Bool×Str)⊕(Bool×Bool×Str×Nat)))=>zaJ (fun(a1:(Bool×Bool×Str))=>((ack fu a1.2.2 a1.1 a1.2.1).bind fun(a0:(Nat×Bool×Bool))=>(if a0.1=0 then some (a0.2.1,a0.2.2,a1.2.2,0)else some (a0.2.1,a0.2.2,a1.2.2,a0.1)))) (fun q=>some q) a8)) (fun q=>some q) a7)
def aku(fu:Nat)(s_0:Str):Option Bool:=
 (((if(s_0.length:Int)<(1:Int)then some true else some (decide ((255:Int)<(s_0.length:Int))))).bind fun(v8:Bool)=>(bif v8 then some false else((alx fu s_0 ([46]:Str)).bind fun(a1:(Str×Str×Int))=>((abw fu false false a1.1 a1.2.1 a1.2.2).bind fun(a0:(Bool×Bool×Str×Nat))=>(if a0.2.2.2=0 then some a0.1 else(if a0.2.2.2=1 then some a0.2.1 else none))))))
def aeq(fu:Nat)(s_0:Str):Option (Str×Bool):=
 (((if(2:Int)≤(s_0.length:Int)then(gd (0≤(0:Int)∧(0:Int)<(s_0.length:Int))<|(if(at_ s_0 (0:Int))=(91:UInt8)then(gd (aay ((s_0.length:Int)-(1:Int)))<|(gd (0≤((s_0.length:Int)-(1:Int))∧((s_0.length:Int)-(1:Int))<(s_0.length:Int))<|some (decide ((at_ s_0 ((s_0.length:Int)-(1:Int)))=(93:UInt8)))))else some false))else some false)).bind fun(v9:Bool)=>(bif v9 then(gd (aay ((s_0.length:Int)-(1:Int)))<|(gd (0≤(1:Int)∧(1:Int)≤((s_0.length:Int)-(1:Int))∧((s_0.length:Int)-(1:Int))≤(s_0.length:Int))<|((ans fu (sub s_0 (1:Int) ((s_0.length:Int)-(1:Int)))).bind fun(a0:(Str×Bool))=>(bif (!a0.2)then some (([]:Str),false)else(gd (([91]:Str).length+a0.1.length≤9223372036854775807)<|(gd ((([91]:Str)++a0.1).length+([93]:Str).length≤9223372036854775807)<|some ((([91]:Str)++a0.1)++([93]:Str),true)))))))else((amz fu s_0).bind fun(a1:Bool)=>(bif a1 then some (s_0,true)else((aku fu s_0).bind fun(a2:Bool)=>(bif a2 then((abn fu s_0).bind fun(a3:Str)=>some (a3,true))else some (([]:Str),false)))))))
def aic(fu:Nat)(s_0:Str)(a2:Int→Int→Option (Int⊕(Int×UInt8)))(a1:Int)(a0:Int):Option (Int⊕(Int×UInt8)):=
 (if a0<(s_0.length:Int)then(((gd (0≤a0∧a0<(s_0.length:Int))<|(if(at_ s_0 a0)<(48:UInt8)then some true else(gd (0≤a0∧a0<(s_0.length:Int))<|some (decide ((57:UInt8)<(at_ s_0 a0))))))).bind fun(a3:Bool)=>(bif a3 then some (.inr ((0:Int),(5:UInt8)))else(gd (aay ((10:Int)*a1))<|(gd (0≤a0∧a0<(s_0.length:Int))<|(gd (aay (((10:Int)*a1)+(((at_ s_0 a0)-(48:UInt8)).toNat:Int)))<|(gd (aay (a0+(1:Int)))<|(a2 (((10:Int)*a1)+(((at_ s_0 a0)-(48:UInt8)).toNat:Int)) (a0+(1:Int)))))))))else some (.inl a1))
def aji(fu:Nat)(s_0:Str):Nat→Int→Int→Option (Int⊕(Int×UInt8)):=fun k_ a0 a1=>loopF (fun(g:(Int×Int)→Option (Int⊕(Int×UInt8))) v=>aic fu s_0 (fun a0 a1=>g (a0,a1)) v.1 v.2) k_ (a0,a1)
theorem ang{fu:Nat}{s_0:Str}{k_:Nat}{a0:Int}{a1:Int}:aji fu s_0 (k_+1) a0 a1=aic fu s_0 (aji fu s_0 k_) a0 a1:=rfl
def agz(fu:Nat)(s_0:Str):Option (Int×UInt8):=
 (((if(s_0.length:Int)<(1:Int)then some true else some (decide ((10:Int)<(s_0.length:Int))))).bind fun(v5:Bool)=>(bif v5 then some ((0:Int),(5:UInt8))else(((aji fu s_0 fu (0:Int) (0:Int))).bind fun(a1:(Int⊕(Int×UInt8)))=>zaJ (fun(a0:Int)=>(if(2147483647:Int)<a0 then some ((0:Int),(3:UInt8))else some (a0,(0:UInt8)))) (fun q=>some q) a1)))
def aif(fu:Nat)(a0:(Str×Int))(a1:(Str×Str×Str×Int×(List PQ)×(List PQ))):Option (Int×UInt8×(Str×Int)×(Str×Str×Str×Int×(List PQ)×(List PQ))):=
 (((gd (0≤a0.2∧a0.2≤(a0.1.length:Int))<|(if(0:Int)≤(ixb (·==(64:UInt8)) (zax (zaj a0.2) a0.1))then(gd (aay (a0.2+(ixb (·==(64:UInt8)) (zax (zaj a0.2) a0.1))))<|((adj fu a0 (a0.2+(ixb (·==(64:UInt8)) (zax (zaj a0.2) a0.1))) (0:Int)).bind fun(a4:(Int×Bool))=>(bif a4.2 then(gd (0≤a4.1∧a4.1<(a0.1.length:Int))<|(if(at_ a0.1 a4.1)=(58:UInt8)then some (.inr (a4.1,(15:UInt8),a0,a1))else some (.inr (a4.1,(5:UInt8),a0,a1))))else(if(ixb (·==(64:UInt8)) (zax (zaj a0.2) a0.1))=(0:Int)then some (.inr (a0.2+(ixb (·==(64:UInt8)) (zax (zaj a0.2) a0.1)),(5:UInt8),a0,a1))else(gd (0≤a0.2∧a0.2≤(a0.2+(ixb (·==(64:UInt8)) (zax (zaj a0.2) a0.1)))∧(a0.2+(ixb (·==(64:UInt8)) (zax (zaj a0.2) a0.1)))≤(a0.1.length:Int))<|((ahk fu (sub a0.1 a0.2 (a0.2+(ixb (·==(64:UInt8)) (zax (zaj a0.2) a0.1))))).bind fun(b0:Str)=>(gd (aay ((a0.2+(ixb (·==(64:UInt8)) (zax (zaj a0.2) a0.1)))+(1:Int)))<|some (.inl ((a0.2+(ixb (·==(64:UInt8)) (zax (zaj a0.2) a0.1)))+(1:Int),b0)))))))))else some (.inl (a0.2,a1.2.1))))).bind fun(b1:((Int×Str)⊕(Int×UInt8×(Str×Int)×(Str×Str×Str×Int×(List PQ)×(List PQ)))))=>zaJ (fun(a3:(Int×Str))=>((aai fu a0.1 a3.1 ([58,59,63]:Str)).bind fun(b2:Int)=>((((aad fu (a0.1,a3.1) (91:UInt8)).bind fun(b3:Bool)=>(bif b3 then((aai fu a0.1 a3.1 ([93]:Str)).bind fun(a8:Int)=>(gd (aay (a8+(1:Int)))<|some (min (a8+(1:Int)) (a0.1.length:Int))))else some b2))).bind fun(a2:Int)=>(gd (0≤a3.1∧a3.1≤a2∧a2≤(a0.1.length:Int))<|((aeq fu (sub a0.1 a3.1 a2)).bind fun(a5:(Str×Bool))=>(bif (!a5.2)then some (a3.1,(5:UInt8),(a0.1,a3.1),(a1.1,a3.2,a1.2.2.1,a1.2.2.2.1,a1.2.2.2.2.1,a1.2.2.2.2.2))else((aad fu (a0.1,a2) (58:UInt8)).bind fun(b4:Bool)=>(bif b4 then(gd (aay (a2+(1:Int)))<|((aai fu a0.1 (a2+(1:Int)) ([59,63]:Str)).bind fun(a7:Int)=>(gd (0≤(a2+(1:Int))∧(a2+(1:Int))≤a7∧a7≤(a0.1.length:Int))<|((agz fu (sub a0.1 (a2+(1:Int)) a7)).bind fun(a6:(Int×UInt8))=>(((((if a6.2=(0:UInt8)then(if a6.1<(1:Int)then some true else some (decide ((65535:Int)<a6.1)))else some false)).bind fun(b5:Bool)=>(bif b5 then some (3:UInt8)else some a6.2))).bind fun(a9:UInt8)=>(if a9=(0:UInt8)then some ((0:Int),(0:UInt8),(a0.1,a7),(a1.1,a3.2,a5.1,a6.1,a1.2.2.2.2.1,a1.2.2.2.2.2))else some (a2+(1:Int),a9,(a0.1,a2+(1:Int)),(a1.1,a3.2,a5.1,a1.2.2.2.1,a1.2.2.2.2.1,a1.2.2.2.2.2))))))))else((((abz fu (a0.1,a2)).bind fun(b6:Bool)=>(bif (!b6)then((aad fu (a0.1,a2) (59:UInt8)).bind fun(b7:Bool)=>(bif (!b7)then((aad fu (a0.1,a2) (63:UInt8)).bind fun(b8:Bool)=>some (!b8))else some false))else some false))).bind fun(b9:Bool)=>(bif b9 then some (a2,(5:UInt8),(a0.1,a2),(a1.1,a3.2,a5.1,a1.2.2.2.1,a1.2.2.2.2.1,a1.2.2.2.2.2))else some ((0:Int),(0:UInt8),(a0.1,a2),(a1.1,a3.2,a5.1,a1.2.2.2.1,a1.2.2.2.2.1,a1.2.2.2.2.2)))))))))))) (fun q=>some q) b1)
open Go.Lib renaming trimPrefix → zas
def aei(fu:Nat)(a1:(Str×Int))(a4:(Str×Str×Str×Int×(List PQ)×(List PQ)))(y1:Int)(y6:Bool)(a5:(List UInt8)→Int→Option (((List UInt8)×Int)⊕(Int×UInt8×(Str×Int)×(Str×Str×Str×Int×(List PQ)×(List PQ)))))(a2:List UInt8)(a0:Int):Option (((List UInt8)×Int)⊕(Int×UInt8×(Str×Int)×(Str×Str×Str×Int×(List PQ)×(List PQ)))):=
 (if a0<y1 then(((gd (0≤a0∧a0<(a1.1.length:Int))<|(((((if(48:UInt8)≤(at_ a1.1 a0)then some (decide ((at_ a1.1 a0)≤(57:UInt8)))else some false)).bind fun(a3:Bool)=>(bif a3 then some a3 else(bif (!y6)then(if(at_ a1.1 a0)=(42:UInt8)then some true else some (decide ((at_ a1.1 a0)=(35:UInt8))))else some false)))).bind fun(a6:Bool)=>(bif a6 then(gd ((a2.length+([at_ a1.1 a0]:List UInt8).length)*1≤140737488355328)<|some (.inl (a2++([at_ a1.1 a0]:List UInt8))))else(((if(at_ a1.1 a0)=(45:UInt8)then some false else(if(at_ a1.1 a0)=(46:UInt8)then some false else(if(at_ a1.1 a0)=(40:UInt8)then some false else some (!decide ((at_ a1.1 a0)=(41:UInt8))))))).bind fun(a7:Bool)=>(bif a7 then some (.inr (a0,(5:UInt8),(a1.1,a0),a4))else some (.inl a2))))))).bind fun(a8:((List UInt8)⊕(Int×UInt8×(Str×Int)×(Str×Str×Str×Int×(List PQ)×(List PQ)))))=>zaJ (fun(a9:List UInt8)=>(gd (aay (a0+(1:Int)))<|(a5 a9 (a0+(1:Int))))) (fun q=>some (.inr q)) a8)else some (.inl (a2,a0)))
def afc(fu:Nat)(a2:(Str×Int))(a3:(Str×Str×Str×Int×(List PQ)×(List PQ)))(y1:Int)(y6:Bool):Nat→(List UInt8)→Int→Option (((List UInt8)×Int)⊕(Int×UInt8×(Str×Int)×(Str×Str×Str×Int×(List PQ)×(List PQ)))):=fun k_ a0 a1=>loopF (fun(g:((List UInt8)×Int)→Option (((List UInt8)×Int)⊕(Int×UInt8×(Str×Int)×(Str×Str×Str×Int×(List PQ)×(List PQ))))) v=>aei fu a2 a3 y1 y6 (fun a0 a1=>g (a0,a1)) v.1 v.2) k_ (a0,a1)
theorem aln{fu:Nat}{a0:(Str×Int)}{a1:(Str×Str×Str×Int×(List PQ)×(List PQ))}{y1:Int}{y6:Bool}{k_:Nat}{a2:List UInt8}{a3:Int}:afc fu a0 a1 y1 y6 (k_+1) a2 a3=aei fu a0 a1 y1 y6 (afc fu a0 a1 y1 y6 k_) a2 a3:=rfl
def agw(fu:Nat)(a1:(Str×Int))(a0:(Str×Str×Str×Int×(List PQ)×(List PQ))):Option (Int×UInt8×(Str×Int)×(Str×Str×Str×Int×(List PQ)×(List PQ))):=
 ((aai fu a1.1 a1.2 ([59]:Str)).bind fun(y1:Int)=>((aad fu a1 (43:UInt8)).bind fun(y6:Bool)=>(((bif y6 then(gd ((([]:List UInt8).length+([(43:UInt8)]:List UInt8).length)*1≤140737488355328)<|(gd (aay (a1.2+(1:Int)))<|some (([]:List UInt8)++([(43:UInt8)]:List UInt8),a1.2+(1:Int))))else some (([]:List UInt8),a1.2))).bind fun(a3:((List UInt8)×Int))=>(((afc fu a1 a0 y1 y6 fu a3.1 a3.2)).bind fun(a4:(((List UInt8)×Int)⊕(Int×UInt8×(Str×Int)×(Str×Str×Str×Int×(List PQ)×(List PQ)))))=>zaJ (fun(a2:((List UInt8)×Int))=>(if(zas a2.1 ([43]:Str))=([]:Str)then some (a1.2,(5:UInt8),(a1.1,a2.2),(a0.1,a2.1,a0.2.2.1,a0.2.2.2.1,a0.2.2.2.2.1,a0.2.2.2.2.2))else(if(30:Int)<((zas a2.1 ([43]:Str)).length:Int)then some (a1.2,(4:UInt8),(a1.1,a2.2),(a0.1,a2.1,a0.2.2.1,a0.2.2.2.1,a0.2.2.2.2.1,a0.2.2.2.2.2))else some ((0:Int),(0:UInt8),(a1.1,a2.2),(a0.1,a2.1,a0.2.2.1,a0.2.2.2.1,a0.2.2.2.2.1,a0.2.2.2.2.2))))) (fun q=>some q) a4))))
def ana(fu:Nat)(a0:PQ)(a1:Str):Option Bool:=
 some (decide (a0.1=a1))
def aaw(fu:Nat)(s_0:List PQ)(a1:Str)(a2:Int→Option (Unit⊕Int))(a0:Int):Option (Unit⊕Int):=
 (if a0<(s_0.length:Int)then(gd (0≤a0∧a0<(s_0.length:Int))<|(gd (0≤a0∧a0<(s_0.length:Int))<|((ana fu ((el s_0 a0).1,(el s_0 a0).2.1,((el s_0 a0).2.2)) a1).bind fun(a3:Bool)=>(bif a3 then some (.inr a0)else(gd (aay (a0+(1:Int)))<|(a2 (a0+(1:Int))))))))else some (.inl ()))
def abj(fu:Nat)(s_0:List PQ)(a1:Str):Nat→Int→Option (Unit⊕Int):=fun k_ a0=>loopF (fun(g:Int→Option (Unit⊕Int)) v=>aaw fu s_0 a1 (fun a0=>g a0) v) k_ a0
theorem aby{fu:Nat}{s_0:List PQ}{a0:Str}{k_:Nat}{a1:Int}:abj fu s_0 a0 (k_+1) a1=aaw fu s_0 a0 (abj fu s_0 a0 k_) a1:=rfl
def act(fu:Nat)(s_0:List PQ)(a0:Str):Option Int:=
 (((abj fu s_0 a0 fu (0:Int))).bind fun(a1:(Unit⊕Int))=>zaJ (fun(a2:Unit)=>some (-1:Int)) (fun q=>some q) a1)
def acj(fu:Nat)(s_0:List PQ)(a0:Str):Option Bool:=
 ((act fu s_0 a0).bind fun(y1:Int)=>some (decide ((0:Int)≤y1)))
def akw(fu:Nat)(a0:List PQ)(a1:Str):Option Bool:=
 ((acj fu a0 a1).bind fun(y4:Bool)=>some y4)
def alp(fu:Nat)(a0:List PQ)(a1:Str):Option UInt8:=
 ((akw fu a0 a1).bind fun(y1:Bool)=>(bif y1 then some (7:UInt8)else(if(16:Int)≤(a0.length:Int)then some (4:UInt8)else some (0:UInt8))))
def afn(fu:Nat)(a0:(Str×Int))(a5:List PQ)(a1:Int)(a3:Int):Option ((List PQ)×Int×UInt8×(Str×Int)):=
 (gd (0≤a0.2∧a0.2≤a1∧a1≤(a0.1.length:Int))<|(((if(0:Int)≤(ixb (·==(61:UInt8)) (sub a0.1 a0.2 a1))then(gd (aay (a0.2+(ixb (·==(61:UInt8)) (sub a0.1 a0.2 a1))))<|some (a0.2+(ixb (·==(61:UInt8)) (sub a0.1 a0.2 a1))))else some a1)).bind fun(a2:Int)=>((adj fu a0 a2 a3).bind fun(a7:(Int×Bool))=>(bif a7.2 then some (([]:List PQ),a7.1,(5:UInt8),a0)else(if a2=a0.2 then some (([]:List PQ),a0.2,(5:UInt8),a0)else(gd (0≤a0.2∧a0.2≤a2∧a2≤(a0.1.length:Int))<|((ahk fu (sub a0.1 a0.2 a2)).bind fun(b0:Str)=>((abn fu b0).bind fun(a6:Str)=>(((if(0:Int)≤(ixb (·==(61:UInt8)) (sub a0.1 a0.2 a1))then(gd (aay (a2+(1:Int)))<|((adj fu (a0.1,a2+(1:Int)) a1 a3).bind fun(a8:(Int×Bool))=>(bif a8.2 then some (.inr (([]:List PQ),a8.1,(5:UInt8),(a0.1,a2+(1:Int))))else(((if(a2+(1:Int))=a1 then some (decide (a3=(1:Int)))else some false)).bind fun(b1:Bool)=>(bif b1 then some (.inr (([]:List PQ),a1,(5:UInt8),(a0.1,a2+(1:Int))))else(gd (0≤(a2+(1:Int))∧(a2+(1:Int))≤a1∧a1≤(a0.1.length:Int))<|((ahk fu (sub a0.1 (a2+(1:Int)) a1)).bind fun(b2:Str)=>some (.inl (a1,b2)))))))))else(if a3=(2:Int)then some (.inr (([]:List PQ),a1,(5:UInt8),(a0.1,a1)))else some (.inl (a1,([]:Str)))))).bind fun(b3:((Int×Str)⊕((List PQ)×Int×UInt8×(Str×Int))))=>zaJ (fun(a4:(Int×Str))=>((alp fu a5 a6).bind fun(a9:UInt8)=>(if a9=(0:UInt8)then(gd ((a5.length+([(a6,a4.2,(decide ((0:Int)≤(ixb (·==(61:UInt8)) (sub a0.1 a0.2 a1)))))]:List PQ).length)*40≤140737488355328)<|some (a5++([(a6,a4.2,(decide ((0:Int)≤(ixb (·==(61:UInt8)) (sub a0.1 a0.2 a1)))))]:List PQ),(0:Int),(0:UInt8),(a0.1,a4.1)))else some (([]:List PQ),a0.2,a9,(a0.1,a4.1))))) (fun q=>some q) b3)))))))))
def amc(fu:Nat)(a0:Str):Option Bool:=
 some (!decide (a0=a0))
open Go.IntKind renaming wrap → zab
open Go.Op renaming bytesLess → zaF
def akg(fu:Nat)(a0:Str)(a1:Str):Option Int:=
 ((amc fu a0).bind fun(y1:Bool)=>((amc fu a1).bind fun(y6:Bool)=>(bif y1 then(bif y6 then some (0:Int)else some (-1:Int))else(bif y6 then some (1:Int)else(bif (zaF a0 a1)then some (-1:Int)else(bif (!(zaF a0 a1||a0==a1))then some (1:Int)else some (0:Int)))))))
def aey(fu:Nat)(a0:PQ)(a1:PQ):Option Int:=
 ((akg fu a0.1 a1.1).bind fun(y7:Int)=>some y7)
def aat(fu:Nat)(a2:Int)(a3:(List PQ)→Int→Option (List PQ))(a1:List PQ)(a0:Int):Option (List PQ):=
 (((if a2<a0 then(gd (0≤a0∧a0<(a1.length:Int))<|(gd (0≤a0∧a0<(a1.length:Int))<|(gd (aay (a0-(1:Int)))<|(gd (0≤(a0-(1:Int))∧(a0-(1:Int))<(a1.length:Int))<|(gd (0≤(a0-(1:Int))∧(a0-(1:Int))<(a1.length:Int))<|((aey fu ((el a1 a0).1,(el a1 a0).2.1,((el a1 a0).2.2)) ((el a1 (a0-(1:Int))).1,(el a1 (a0-(1:Int))).2.1,((el a1 (a0-(1:Int))).2.2))).bind fun(a4:Int)=>some (decide (a4<(0:Int)))))))))else some false)).bind fun(a5:Bool)=>(bif a5 then(gd (aay (a0-(1:Int)))<|(gd (aay (a0-(1:Int)))<|(gd (0≤(a0-(1:Int))∧(a0-(1:Int))<(a1.length:Int))<|(gd (0≤(a0-(1:Int))∧(a0-(1:Int))<(a1.length:Int))<|(gd (0≤a0∧a0<(a1.length:Int))<|(gd (0≤a0∧a0<(a1.length:Int))<|(gd (0≤a0∧a0<(a1.length:Int))<|(gd (0≤a0∧a0<(a1.length:Int))<|(gd (0≤(a0-(1:Int))∧(a0-(1:Int))<((zaE a1 (zaj a0) ((el a1 (a0-(1:Int))).1,(el a1 (a0-(1:Int))).2.1,((el a1 (a0-(1:Int))).2.2))).length:Int))<|(gd (0≤(a0-(1:Int))∧(a0-(1:Int))<((zaE a1 (zaj a0) ((el a1 (a0-(1:Int))).1,(el a1 (a0-(1:Int))).2.1,((el a1 (a0-(1:Int))).2.2))).length:Int))<|(gd (aay (a0-(1:Int)))<|(a3 (zaE (zaE a1 (zaj a0) ((el a1 (a0-(1:Int))).1,(el a1 (a0-(1:Int))).2.1,((el a1 (a0-(1:Int))).2.2))) (zaj (a0-(1:Int))) ((el a1 a0).1,(el a1 a0).2.1,((el a1 a0).2.2))) (a0-(1:Int))))))))))))))else some a1))
def aau(fu:Nat)(a2:Int):Nat→(List PQ)→Int→Option (List PQ):=fun k_ a0 a1=>loopF (fun(g:((List PQ)×Int)→Option (List PQ)) v=>aat fu a2 (fun a0 a1=>g (a0,a1)) v.1 v.2) k_ (a0,a1)
theorem acd{fu:Nat}{a0:Int}{k_:Nat}{a1:List PQ}{a2:Int}:aau fu a0 (k_+1) a1 a2=aat fu a0 (aau fu a0 k_) a1 a2:=rfl
def aak(fu:Nat)(a2:Int)(a3:Int)(a4:(List PQ)→Int→Option (List PQ))(a1:List PQ)(a0:Int):Option (List PQ):=
 (if a0<a3 then(((aau fu a2 fu a1 a0)).bind fun(a5:List PQ)=>(gd (aay (a0+(1:Int)))<|(a4 a5 (a0+(1:Int)))))else some a1)
def aaf(fu:Nat)(a2:Int)(a3:Int):Nat→(List PQ)→Int→Option (List PQ):=fun k_ a0 a1=>loopF (fun(g:((List PQ)×Int)→Option (List PQ)) v=>aak fu a2 a3 (fun a0 a1=>g (a0,a1)) v.1 v.2) k_ (a0,a1)
theorem abh{fu:Nat}{a0:Int}{a1:Int}{k_:Nat}{a2:List PQ}{a3:Int}:aaf fu a0 a1 (k_+1) a2 a3=aak fu a0 a1 (aaf fu a0 a1 k_) a2 a3:=rfl
def aao(fu:Nat)(a1:List PQ)(a0:Int)(a2:Int):Option (List PQ):=
 (gd (aay (a0+(1:Int)))<|(aaf fu a0 a2 fu a1 (a0+(1:Int))))
def agu(fu:Nat)(a3:Int)(a2:Int)(a4:Int)(a5:(List PQ)→Int→Option (List PQ))(a1:List PQ)(a0:Int):Option (List PQ):=
 (if a0<a4 then(gd (aay (a3+a0))<|(gd (aay (a2+a0))<|(gd (aay (a2+a0))<|(gd (0≤(a2+a0)∧(a2+a0)<(a1.length:Int))<|(gd (0≤(a2+a0)∧(a2+a0)<(a1.length:Int))<|(gd (aay (a3+a0))<|(gd (0≤(a3+a0)∧(a3+a0)<(a1.length:Int))<|(gd (0≤(a3+a0)∧(a3+a0)<(a1.length:Int))<|(gd (0≤(a3+a0)∧(a3+a0)<(a1.length:Int))<|(gd (0≤(a3+a0)∧(a3+a0)<(a1.length:Int))<|(gd (0≤(a2+a0)∧(a2+a0)<((zaE a1 (zaj (a3+a0)) ((el a1 (a2+a0)).1,(el a1 (a2+a0)).2.1,((el a1 (a2+a0)).2.2))).length:Int))<|(gd (0≤(a2+a0)∧(a2+a0)<((zaE a1 (zaj (a3+a0)) ((el a1 (a2+a0)).1,(el a1 (a2+a0)).2.1,((el a1 (a2+a0)).2.2))).length:Int))<|(gd (aay (a0+(1:Int)))<|(a5 (zaE (zaE a1 (zaj (a3+a0)) ((el a1 (a2+a0)).1,(el a1 (a2+a0)).2.1,((el a1 (a2+a0)).2.2))) (zaj (a2+a0)) ((el a1 (a3+a0)).1,(el a1 (a3+a0)).2.1,((el a1 (a3+a0)).2.2))) (a0+(1:Int))))))))))))))))else some a1)
def ahi(fu:Nat)(a2:Int)(a3:Int)(a4:Int):Nat→(List PQ)→Int→Option (List PQ):=fun k_ a0 a1=>loopF (fun(g:((List PQ)×Int)→Option (List PQ)) v=>agu fu a2 a3 a4 (fun a0 a1=>g (a0,a1)) v.1 v.2) k_ (a0,a1)
def abe(fu:Nat)(a0:List PQ)(a1:Int)(a2:Int)(a3:Int):Option (List PQ):=
 (ahi fu a1 a2 a3 fu a0 (0:Int))
def aio(fu:Nat)(a2:Int)(a4:(List PQ)→Int→Int→Option ((List PQ)×Int))(a3:List PQ)(a0:Int)(a1:Int):Option ((List PQ)×Int):=
 (if a0=a1 then some (a3,a0)else(if a1<a0 then(gd (aay (a2-a0))<|((abe fu a3 (a2-a0) a2 a1).bind fun(a5:List PQ)=>(gd (aay (a0-a1))<|(a4 a5 (a0-a1) a1))))else(gd (aay (a2-a0))<|(gd (aay (a2+a1))<|(gd (aay ((a2+a1)-a0))<|((abe fu a3 (a2-a0) ((a2+a1)-a0) a0).bind fun(a6:List PQ)=>(gd (aay (a1-a0))<|(a4 a6 a0 (a1-a0)))))))))
def aiu(fu:Nat)(a3:Int):Nat→(List PQ)→Int→Int→Option ((List PQ)×Int):=fun k_ a0 a1 a2=>loopF (fun(g:((List PQ)×Int×Int)→Option ((List PQ)×Int)) v=>aio fu a3 (fun a0 a1 a2=>g (a0,a1,a2)) v.1 v.2.1 v.2.2) k_ (a0,a1,a2)
def aee(fu:Nat)(a4:List PQ)(a2:Int)(a0:Int)(a3:Int):Option (List PQ):=
 (gd (aay (a0-a2))<|(gd (aay (a3-a0))<|(((aiu fu a0 fu a4 (a0-a2) (a3-a0))).bind fun(a1:((List PQ)×Int))=>(gd (aay (a0-a1.2))<|((abe fu a1.1 (a0-a1.2) a0 a1.2).bind fun(a5:List PQ)=>some a5)))))
def ahg(fu:Nat)(a2:List PQ)(a3:Int)(a4:Int→Int→Option Int)(a0:Int)(a1:Int):Option Int:=
 (if a0<a1 then(gd (aay (a0+a1))<|(gd (0≤(zab .i64 ((zab .u64 (a0+a1))/2))∧(zab .i64 ((zab .u64 (a0+a1))/2))<(a2.length:Int))<|(gd (0≤(zab .i64 ((zab .u64 (a0+a1))/2))∧(zab .i64 ((zab .u64 (a0+a1))/2))<(a2.length:Int))<|(gd (0≤a3∧a3<(a2.length:Int))<|(gd (0≤a3∧a3<(a2.length:Int))<|((aey fu ((el a2 (zab .i64 ((zab .u64 (a0+a1))/2))).1,(el a2 (zab .i64 ((zab .u64 (a0+a1))/2))).2.1,((el a2 (zab .i64 ((zab .u64 (a0+a1))/2))).2.2)) ((el a2 a3).1,(el a2 a3).2.1,((el a2 a3).2.2))).bind fun(a5:Int)=>(if a5<(0:Int)then(gd (aay ((zab .i64 ((zab .u64 (a0+a1))/2))+(1:Int)))<|(a4 ((zab .i64 ((zab .u64 (a0+a1))/2))+(1:Int)) a1))else(a4 a0 (zab .i64 ((zab .u64 (a0+a1))/2))))))))))else some a0)
def ahx(fu:Nat)(a2:List PQ)(a3:Int):Nat→Int→Int→Option Int:=fun k_ a0 a1=>loopF (fun(g:(Int×Int)→Option Int) v=>ahg fu a2 a3 (fun a0 a1=>g (a0,a1)) v.1 v.2) k_ (a0,a1)
def ahf(fu:Nat)(a2:Int)(a3:(List PQ)→Int→Option (List PQ))(a1:List PQ)(a0:Int):Option (List PQ):=
 (gd (aay (a2-(1:Int)))<|(if a0<(a2-(1:Int))then(gd (aay (a0+(1:Int)))<|(gd (aay (a0+(1:Int)))<|(gd (0≤(a0+(1:Int))∧(a0+(1:Int))<(a1.length:Int))<|(gd (0≤(a0+(1:Int))∧(a0+(1:Int))<(a1.length:Int))<|(gd (0≤a0∧a0<(a1.length:Int))<|(gd (0≤a0∧a0<(a1.length:Int))<|(gd (0≤a0∧a0<(a1.length:Int))<|(gd (0≤a0∧a0<(a1.length:Int))<|(gd (0≤(a0+(1:Int))∧(a0+(1:Int))<((zaE a1 (zaj a0) ((el a1 (a0+(1:Int))).1,(el a1 (a0+(1:Int))).2.1,((el a1 (a0+(1:Int))).2.2))).length:Int))<|(gd (0≤(a0+(1:Int))∧(a0+(1:Int))<((zaE a1 (zaj a0) ((el a1 (a0+(1:Int))).1,(el a1 (a0+(1:Int))).2.1,((el a1 (a0+(1:Int))).2.2))).length:Int))<|(gd (aay (a0+(1:Int)))<|(a3 (zaE (zaE a1 (zaj a0) ((el a1 (a0+(1:Int))).1,(el a1 (a0+(1:Int))).2.1,((el a1 (a0+(1:Int))).2.2))) (zaj (a0+(1:Int))) ((el a1 a0).1,(el a1 a0).2.1,((el a1 a0).2.2))) (a0+(1:Int))))))))))))))else some a1))
def ahw(fu:Nat)(a2:Int):Nat→(List PQ)→Int→Option (List PQ):=fun k_ a0 a1=>loopF (fun(g:((List PQ)×Int)→Option (List PQ)) v=>ahf fu a2 (fun a0 a1=>g (a0,a1)) v.1 v.2) k_ (a0,a1)
def ahe(fu:Nat)(a2:List PQ)(a3:Int)(a4:Int→Int→Option Int)(a0:Int)(a1:Int):Option Int:=
 (if a0<a1 then(gd (aay (a0+a1))<|(gd (0≤a3∧a3<(a2.length:Int))<|(gd (0≤a3∧a3<(a2.length:Int))<|(gd (0≤(zab .i64 ((zab .u64 (a0+a1))/2))∧(zab .i64 ((zab .u64 (a0+a1))/2))<(a2.length:Int))<|(gd (0≤(zab .i64 ((zab .u64 (a0+a1))/2))∧(zab .i64 ((zab .u64 (a0+a1))/2))<(a2.length:Int))<|((aey fu ((el a2 a3).1,(el a2 a3).2.1,((el a2 a3).2.2)) ((el a2 (zab .i64 ((zab .u64 (a0+a1))/2))).1,(el a2 (zab .i64 ((zab .u64 (a0+a1))/2))).2.1,((el a2 (zab .i64 ((zab .u64 (a0+a1))/2))).2.2))).bind fun(a5:Int)=>(if a5<(0:Int)then(a4 a0 (zab .i64 ((zab .u64 (a0+a1))/2)))else(gd (aay ((zab .i64 ((zab .u64 (a0+a1))/2))+(1:Int)))<|(a4 ((zab .i64 ((zab .u64 (a0+a1))/2))+(1:Int)) a1)))))))))else some a0)
def ahv(fu:Nat)(a2:List PQ)(a3:Int):Nat→Int→Int→Option Int:=fun k_ a0 a1=>loopF (fun(g:(Int×Int)→Option Int) v=>ahe fu a2 a3 (fun a0 a1=>g (a0,a1)) v.1 v.2) k_ (a0,a1)
def ahd(fu:Nat)(a2:Int)(a3:(List PQ)→Int→Option (List PQ))(a1:List PQ)(a0:Int):Option (List PQ):=
 (if a2<a0 then(gd (aay (a0-(1:Int)))<|(gd (aay (a0-(1:Int)))<|(gd (0≤(a0-(1:Int))∧(a0-(1:Int))<(a1.length:Int))<|(gd (0≤(a0-(1:Int))∧(a0-(1:Int))<(a1.length:Int))<|(gd (0≤a0∧a0<(a1.length:Int))<|(gd (0≤a0∧a0<(a1.length:Int))<|(gd (0≤a0∧a0<(a1.length:Int))<|(gd (0≤a0∧a0<(a1.length:Int))<|(gd (0≤(a0-(1:Int))∧(a0-(1:Int))<((zaE a1 (zaj a0) ((el a1 (a0-(1:Int))).1,(el a1 (a0-(1:Int))).2.1,((el a1 (a0-(1:Int))).2.2))).length:Int))<|(gd (0≤(a0-(1:Int))∧(a0-(1:Int))<((zaE a1 (zaj a0) ((el a1 (a0-(1:Int))).1,(el a1 (a0-(1:Int))).2.1,((el a1 (a0-(1:Int))).2.2))).length:Int))<|(gd (aay (a0-(1:Int)))<|(a3 (zaE (zaE a1 (zaj a0) ((el a1 (a0-(1:Int))).1,(el a1 (a0-(1:Int))).2.1,((el a1 (a0-(1:Int))).2.2))) (zaj (a0-(1:Int))) ((el a1 a0).1,(el a1 a0).2.1,((el a1 a0).2.2))) (a0-(1:Int))))))))))))))else some a1)
def ahu(fu:Nat)(a2:Int):Nat→(List PQ)→Int→Option (List PQ):=fun k_ a0 a1=>loopF (fun(g:((List PQ)×Int)→Option (List PQ)) v=>ahd fu a2 (fun a0 a1=>g (a0,a1)) v.1 v.2) k_ (a0,a1)
def ahc(fu:Nat)(a2:List PQ)(a3:Int)(a4:Int)(a5:Int)(a6:Int→Int→Option Int)(a0:Int)(a1:Int):Option Int:=
 (if a0<a1 then(gd (aay (a0+a1))<|(gd (aay ((((zab .i64 ((zab .u64 (a3+a5))/2))+a4)-(1:Int))-(zab .i64 ((zab .u64 (a0+a1))/2))))<|(gd (0≤((((zab .i64 ((zab .u64 (a3+a5))/2))+a4)-(1:Int))-(zab .i64 ((zab .u64 (a0+a1))/2)))∧((((zab .i64 ((zab .u64 (a3+a5))/2))+a4)-(1:Int))-(zab .i64 ((zab .u64 (a0+a1))/2)))<(a2.length:Int))<|(gd (0≤((((zab .i64 ((zab .u64 (a3+a5))/2))+a4)-(1:Int))-(zab .i64 ((zab .u64 (a0+a1))/2)))∧((((zab .i64 ((zab .u64 (a3+a5))/2))+a4)-(1:Int))-(zab .i64 ((zab .u64 (a0+a1))/2)))<(a2.length:Int))<|(gd (0≤(zab .i64 ((zab .u64 (a0+a1))/2))∧(zab .i64 ((zab .u64 (a0+a1))/2))<(a2.length:Int))<|(gd (0≤(zab .i64 ((zab .u64 (a0+a1))/2))∧(zab .i64 ((zab .u64 (a0+a1))/2))<(a2.length:Int))<|((aey fu ((el a2 ((((zab .i64 ((zab .u64 (a3+a5))/2))+a4)-(1:Int))-(zab .i64 ((zab .u64 (a0+a1))/2)))).1,(el a2 ((((zab .i64 ((zab .u64 (a3+a5))/2))+a4)-(1:Int))-(zab .i64 ((zab .u64 (a0+a1))/2)))).2.1,((el a2 ((((zab .i64 ((zab .u64 (a3+a5))/2))+a4)-(1:Int))-(zab .i64 ((zab .u64 (a0+a1))/2)))).2.2)) ((el a2 (zab .i64 ((zab .u64 (a0+a1))/2))).1,(el a2 (zab .i64 ((zab .u64 (a0+a1))/2))).2.1,((el a2 (zab .i64 ((zab .u64 (a0+a1))/2))).2.2))).bind fun(a7:Int)=>(if a7<(0:Int)then(a6 a0 (zab .i64 ((zab .u64 (a0+a1))/2)))else(gd (aay ((zab .i64 ((zab .u64 (a0+a1))/2))+(1:Int)))<|(a6 ((zab .i64 ((zab .u64 (a0+a1))/2))+(1:Int)) a1))))))))))else some a0)
def aht(fu:Nat)(a2:List PQ)(a3:Int)(a4:Int)(a5:Int):Nat→Int→Int→Option Int:=fun k_ a0 a1=>loopF (fun(g:(Int×Int)→Option Int) v=>ahc fu a2 a3 a4 a5 (fun a0 a1=>g (a0,a1)) v.1 v.2) k_ (a0,a1)
def aam:Nat→(List PQ)→Int→Int→Int→Option (List PQ)
 |0,_,_,_,_=>none
 |fu+1,a4,a0,a2,a1=>(((gd (aay (a2-a0))<|(if(a2-a0)=(1:Int)then(((ahx fu a4 a0 fu a2 a1)).bind fun(a8:Int)=>(((ahw fu a8 fu a4 a0)).bind fun(a9:List PQ)=>some (.inr a9)))else some (.inl ())))).bind fun(b0:(Unit⊕(List PQ)))=>zaJ (fun(c0:Unit)=>(((gd (aay (a1-a2))<|(if(a1-a2)=(1:Int)then(((ahv fu a4 a2 fu a0 a2)).bind fun(b1:Int)=>(((ahu fu b1 fu a4 a2)).bind fun(b2:List PQ)=>some (.inr b2)))else some (.inl ())))).bind fun(b3:(Unit⊕(List PQ)))=>zaJ (fun(c1:Unit)=>(gd (aay (a0+a1))<|(gd (aay ((zab .i64 ((zab .u64 (a0+a1))/2))+a2))<|(((if(zab .i64 ((zab .u64 (a0+a1))/2))<a2 then(gd (aay (((zab .i64 ((zab .u64 (a0+a1))/2))+a2)-a1))<|some (((zab .i64 ((zab .u64 (a0+a1))/2))+a2)-a1,zab .i64 ((zab .u64 (a0+a1))/2)))else some (a0,a2))).bind fun(a5:(Int×Int))=>(gd (aay (((zab .i64 ((zab .u64 (a0+a1))/2))+a2)-(1:Int)))<|(((aht fu a4 a0 a2 a1 fu a5.1 a5.2)).bind fun(a3:Int)=>(gd (aay (((zab .i64 ((zab .u64 (a0+a1))/2))+a2)-a3))<|(((((if a3<a2 then some (decide (a2<(((zab .i64 ((zab .u64 (a0+a1))/2))+a2)-a3)))else some false)).bind fun(b4:Bool)=>(bif b4 then((aee fu a4 a3 a2 (((zab .i64 ((zab .u64 (a0+a1))/2))+a2)-a3)).bind fun(b5:List PQ)=>some b5)else some a4))).bind fun(a6:List PQ)=>(((((if a0<a3 then some (decide (a3<(zab .i64 ((zab .u64 (a0+a1))/2))))else some false)).bind fun(b6:Bool)=>(bif b6 then((aam fu a6 a0 a3 (zab .i64 ((zab .u64 (a0+a1))/2))).bind fun(b7:List PQ)=>some b7)else some a6))).bind fun(a7:List PQ)=>(((if(zab .i64 ((zab .u64 (a0+a1))/2))<(((zab .i64 ((zab .u64 (a0+a1))/2))+a2)-a3)then some (decide ((((zab .i64 ((zab .u64 (a0+a1))/2))+a2)-a3)<a1))else some false)).bind fun(b8:Bool)=>(bif b8 then((aam fu a7 (zab .i64 ((zab .u64 (a0+a1))/2)) (((zab .i64 ((zab .u64 (a0+a1))/2))+a2)-a3) a1).bind fun(b9:List PQ)=>some b9)else some a7))))))))))) (fun q=>some q) b3)) (fun q=>some q) b0)
def abq(fu:Nat)(a3:Int)(a4:(List PQ)→Int→Int→Option ((List PQ)×Int))(a1:List PQ)(a2:Int)(a0:Int):Option ((List PQ)×Int):=
 (if a0≤a3 then((aao fu a1 a2 a0).bind fun(a5:List PQ)=>(gd (aay (a0+(20:Int)))<|(a4 a5 a0 (a0+(20:Int)))))else some (a1,a2))
def aar(fu:Nat)(a3:Int):Nat→(List PQ)→Int→Int→Option ((List PQ)×Int):=fun k_ a0 a1 a2=>loopF (fun(g:((List PQ)×Int×Int)→Option ((List PQ)×Int)) v=>abq fu a3 (fun a0 a1 a2=>g (a0,a1,a2)) v.1 v.2.1 v.2.2) k_ (a0,a1,a2)
theorem aia{fu:Nat}{a0:Int}{k_:Nat}{a1:List PQ}{a2:Int}{a3:Int}:aar fu a0 (k_+1) a1 a2 a3=abq fu a0 (aar fu a0 k_) a1 a2 a3:=rfl
def ain(fu:Nat)(a4:Int)(a0:Int)(a5:(List PQ)→Int→Int→Option ((List PQ)×Int))(a3:List PQ)(a2:Int)(a1:Int):Option ((List PQ)×Int):=
 (if a1≤a4 then(gd (aay (a2+a0))<|((aam fu a3 a2 (a2+a0) a1).bind fun(a6:List PQ)=>(gd (aay ((2:Int)*a0))<|(gd (aay (a1+((2:Int)*a0)))<|(a5 a6 a1 (a1+((2:Int)*a0)))))))else some (a3,a2))
def ais(fu:Nat)(a3:Int)(a4:Int):Nat→(List PQ)→Int→Int→Option ((List PQ)×Int):=fun k_ a0 a1 a2=>loopF (fun(g:((List PQ)×Int×Int)→Option ((List PQ)×Int)) v=>ain fu a3 a4 (fun a0 a1 a2=>g (a0,a1,a2)) v.1 v.2.1 v.2.2) k_ (a0,a1,a2)
def abp(fu:Nat)(a2:Int)(a3:(List PQ)→Int→Option (List PQ))(a4:List PQ)(a0:Int):Option (List PQ):=
 (if a0<a2 then(gd (aay ((2:Int)*a0))<|(((ais fu a2 a0 fu a4 (0:Int) ((2:Int)*a0))).bind fun(a1:((List PQ)×Int))=>(gd (aay (a1.2+a0))<|(if(a1.2+a0)<a2 then((aam fu a1.1 a1.2 (a1.2+a0) a2).bind fun(a5:List PQ)=>(gd (aay (a0*(2:Int)))<|(a3 a5 (a0*(2:Int)))))else(gd (aay (a0*(2:Int)))<|(a3 a1.1 (a0*(2:Int))))))))else some a4)
def aaq(fu:Nat)(a2:Int):Nat→(List PQ)→Int→Option (List PQ):=fun k_ a0 a1=>loopF (fun(g:((List PQ)×Int)→Option (List PQ)) v=>abp fu a2 (fun a0 a1=>g (a0,a1)) v.1 v.2) k_ (a0,a1)
theorem ahz{fu:Nat}{a0:Int}{k_:Nat}{a1:List PQ}{a2:Int}:aaq fu a0 (k_+1) a1 a2=abp fu a0 (aaq fu a0 k_) a1 a2:=rfl
def aca(fu:Nat)(a2:List PQ)(a0:Int):Option (List PQ):=
 (((aar fu a0 fu a2 (0:Int) (20:Int))).bind fun(a1:((List PQ)×Int))=>((aao fu a1.1 a1.2 a0).bind fun(a3:List PQ)=>(aaq fu a0 fu a3 (20:Int))))
def abx(fu:Nat)(a0:List PQ):Option (List PQ):=
 ((aca fu a0 (a0.length:Int)).bind fun(y1:List PQ)=>some y1)
def adr(fu:Nat)(a0:List PQ):Option (List PQ):=
 (gd ((0+a0.length)*40≤140737488355328)<|((abx fu a0).bind fun(y8:List PQ)=>some y8))
def aff(fu:Nat)(a5:(Int×UInt8×Str×Str×Int×Str×Str×Str×Int×(List PQ)×(List PQ)))(a6:Int→UInt8→Str→Int→(List PQ)→Option (Int×UInt8×Str×Int×(List PQ)))(a7:Int)(a3:UInt8)(a2:Str)(a0:Int)(a4:List PQ):Option (Int×UInt8×Str×Int×(List PQ)):=
 (((if a3=(0:UInt8)then((aad fu (a2,a0) (59:UInt8)).bind fun(a8:Bool)=>some a8)else some false)).bind fun(a9:Bool)=>(bif a9 then(gd (aay (a0+(1:Int)))<|((aai fu a2 (a0+(1:Int)) a5.2.2.1).bind fun(b0:Int)=>((afn fu (a2,a0+(1:Int)) a4 b0 (1:Int)).bind fun(a1:((List PQ)×Int×UInt8×(Str×Int)))=>(a6 a1.2.1 a1.2.2.1 a1.2.2.2.1 a1.2.2.2.2 a1.1))))else some (a7,a3,a2,a0,a4)))
def afs(fu:Nat)(a5:(Int×UInt8×Str×Str×Int×Str×Str×Str×Int×(List PQ)×(List PQ))):Nat→Int→UInt8→Str→Int→(List PQ)→Option (Int×UInt8×Str×Int×(List PQ)):=fun k_ a0 a1 a2 a3 a4=>loopF (fun(g:(Int×UInt8×Str×Int×(List PQ))→Option (Int×UInt8×Str×Int×(List PQ))) v=>aff fu a5 (fun a0 a1 a2 a3 a4=>g (a0,a1,a2,a3,a4)) v.1 v.2.1 v.2.2.1 v.2.2.2.1 v.2.2.2.2) k_ (a0,a1,a2,a3,a4)
theorem ajm{fu:Nat}{a0:(Int×UInt8×Str×Str×Int×Str×Str×Str×Int×(List PQ)×(List PQ))}{k_:Nat}{a1:Int}{a2:UInt8}{a3:Str}{a4:Int}{a5:List PQ}:afs fu a0 (k_+1) a1 a2 a3 a4 a5=aff fu a0 (afs fu a0 k_) a1 a2 a3 a4 a5:=rfl
def afe(fu:Nat)(a5:Int→UInt8→Str→Int→(List PQ)→Option (Int×UInt8×Str×Int×(List PQ)))(a6:Int)(a3:UInt8)(a2:Str)(a0:Int)(a4:List PQ):Option (Int×UInt8×Str×Int×(List PQ)):=
 (((if a3=(0:UInt8)then((abz fu (a2,a0)).bind fun(a7:Bool)=>some (!a7))else some false)).bind fun(a8:Bool)=>(bif a8 then(gd (aay (a0+(1:Int)))<|((aai fu a2 (a0+(1:Int)) ([38]:Str)).bind fun(a9:Int)=>((afn fu (a2,a0+(1:Int)) a4 a9 (2:Int)).bind fun(a1:((List PQ)×Int×UInt8×(Str×Int)))=>(a5 a1.2.1 a1.2.2.1 a1.2.2.2.1 a1.2.2.2.2 a1.1))))else some (a6,a3,a2,a0,a4)))
def afr(fu:Nat):Nat→Int→UInt8→Str→Int→(List PQ)→Option (Int×UInt8×Str×Int×(List PQ)):=fun k_ a0 a1 a2 a3 a4=>loopF (fun(g:(Int×UInt8×Str×Int×(List PQ))→Option (Int×UInt8×Str×Int×(List PQ))) v=>afe fu (fun a0 a1 a2 a3 a4=>g (a0,a1,a2,a3,a4)) v.1 v.2.1 v.2.2.1 v.2.2.2.1 v.2.2.2.2) k_ (a0,a1,a2,a3,a4)
theorem ajl{fu:Nat}{k_:Nat}{a0:Int}{a1:UInt8}{a2:Str}{a3:Int}{a4:List PQ}:afr fu (k_+1) a0 a1 a2 a3 a4=afe fu (afr fu k_) a0 a1 a2 a3 a4:=rfl
def amt(fu:Nat)(s_0:Str):Option ((Str×Str×Str×Int×(List PQ)×(List PQ))×Int×UInt8):=
 (if(1024:Int)<(s_0.length:Int)then some ((([]:Str),([]:Str),([]:Str),(0:Int),([]:List PQ),([]:List PQ)),(1024:Int),(4:UInt8))else(if(ixb (·==(58:UInt8)) s_0)<(0:Int)then some ((([]:Str),([]:Str),([]:Str),(0:Int),([]:List PQ),([]:List PQ)),(s_0.length:Int),(5:UInt8))else(gd (aay ((ixb (·==(58:UInt8)) s_0)+(1:Int)))<|(gd (0≤(ixb (·==(58:UInt8)) s_0)∧(ixb (·==(58:UInt8)) s_0)≤(s_0.length:Int))<|((abn fu (List.take (zaj (ixb (·==(58:UInt8)) s_0)) s_0)).bind fun(a3:Str)=>(((((if a3=([115,105,112]:Str)then some (decide (a3=([115,105,112]:Str)))else some (decide (a3=([115,105,112,115]:Str))))).bind fun(a6:Bool)=>(bif a6 then((aif fu (s_0,(ixb (·==(58:UInt8)) s_0)+(1:Int)) (a3,([]:Str),([]:Str),(0:Int),([]:List PQ),([]:List PQ))).bind fun(a1:(Int×UInt8×(Str×Int)×(Str×Str×Str×Int×(List PQ)×(List PQ))))=>some (a1.1,a1.2.1,([59,63]:Str),a1.2.2.1.1,a1.2.2.1.2,a1.2.2.2.1,a1.2.2.2.2.1,a1.2.2.2.2.2.1,a1.2.2.2.2.2.2.1,a1.2.2.2.2.2.2.2.1,a1.2.2.2.2.2.2.2.2))else(if a3=([116,101,108]:Str)then((agw fu (s_0,(ixb (·==(58:UInt8)) s_0)+(1:Int)) (a3,([]:Str),([]:Str),(0:Int),([]:List PQ),([]:List PQ))).bind fun(a2:(Int×UInt8×(Str×Int)×(Str×Str×Str×Int×(List PQ)×(List PQ))))=>some (a2.1,a2.2.1,([59]:Str),a2.2.2.1.1,a2.2.2.1.2,a2.2.2.2.1,a2.2.2.2.2.1,a2.2.2.2.2.2.1,a2.2.2.2.2.2.2.1,a2.2.2.2.2.2.2.2.1,a2.2.2.2.2.2.2.2.2))else some ((0:Int),(15:UInt8),([59,63]:Str),s_0,(ixb (·==(58:UInt8)) s_0)+(1:Int),a3,([]:Str),([]:Str),(0:Int),([]:List PQ),([]:List PQ)))))).bind fun(a0:(Int×UInt8×Str×Str×Int×Str×Str×Str×Int×(List PQ)×(List PQ)))=>(((afs fu a0 fu a0.1 a0.2.1 a0.2.2.2.1 a0.2.2.2.2.1 a0.2.2.2.2.2.2.2.2.2.1)).bind fun(a4:(Int×UInt8×Str×Int×(List PQ)))=>(((afr fu fu a4.1 a4.2.1 a4.2.2.1 a4.2.2.2.1 a0.2.2.2.2.2.2.2.2.2.2)).bind fun(a5:(Int×UInt8×Str×Int×(List PQ)))=>(if a5.2.1=(0:UInt8)then((adr fu a4.2.2.2.2).bind fun(a7:List PQ)=>((adr fu a5.2.2.2.2).bind fun(a8:List PQ)=>some ((a0.2.2.2.2.2.1,a0.2.2.2.2.2.2.1,a0.2.2.2.2.2.2.2.1,a0.2.2.2.2.2.2.2.2.1,a7,a8),(0:Int),(0:UInt8))))else some ((([]:Str),([]:Str),([]:Str),(0:Int),([]:List PQ),([]:List PQ)),a5.1,a5.2.1))))))))))
def afa(fu:Nat)(a0:(Str×Int))(a2:(Str×(Str×Str×Str×Int×(List PQ)×(List PQ))×(List PQ))):Option (Int×UInt8×(Str×Int)×(Str×(Str×Str×Str×Int×(List PQ)×(List PQ))×(List PQ))):=
 ((((aad fu a0 (60:UInt8)).bind fun(a7:Bool)=>(bif a7 then(gd (aay (a0.2+(1:Int)))<|((aai fu a0.1 (a0.2+(1:Int)) ([62]:Str)).bind fun(a3:Int)=>(if a3=(a0.1.length:Int)then some (.inr (a3,(5:UInt8),a0,a2))else(gd (aay (a3+(1:Int)))<|some (.inl (a0.2+(1:Int),a3,a3+(1:Int)))))))else((aai fu a0.1 a0.2 ([59,32,9]:Str)).bind fun(a5:Int)=>((aai fu a0.1 a0.2 ([63,44]:Str)).bind fun(a6:Int)=>(if a6<a5 then some (.inr (a6,(5:UInt8),a0,a2))else some (.inl (a0.2,a5,a5)))))))).bind fun(a8:((Int×Int×Int)⊕(Int×UInt8×(Str×Int)×(Str×(Str×Str×Str×Int×(List PQ)×(List PQ))×(List PQ)))))=>zaJ (fun(a1:(Int×Int×Int))=>(gd (0≤a1.1∧a1.1≤a1.2.1∧a1.2.1≤(a0.1.length:Int))<|((amt fu (sub a0.1 a1.1 a1.2.1)).bind fun(a4:((Str×Str×Str×Int×(List PQ)×(List PQ))×Int×UInt8))=>(if a4.2.2=(0:UInt8)then some ((0:Int),(0:UInt8),(a0.1,a1.2.2),(a2.1,a4.1,a2.2.2))else(gd (aay (a1.1+a4.2.1))<|some (a1.1+a4.2.1,a4.2.2,a0,a2)))))) (fun q=>some q) a8)
def agx(fu:Nat)(a7:(Str×Int)):Option (PQ×Int×UInt8×(Str×Int)):=
 ((adk fu a7).bind fun(y4:(Str×(Str×Int)))=>((abn fu y4.1).bind fun(a2:Str)=>(if a2=([]:Str)then some ((([]:Str),([]:Str),false),y4.2.2,(5:UInt8),y4.2)else((abi fu y4.2).bind fun(a3:(Str×Int))=>((aad fu a3 (61:UInt8)).bind fun(a8:Bool)=>(bif (!a8)then some ((a2,([]:Str),false),(0:Int),(0:UInt8),a3)else(gd (aay (a3.2+(1:Int)))<|((abi fu (a3.1,a3.2+(1:Int))).bind fun(a0:(Str×Int))=>((aad fu a0 (34:UInt8)).bind fun(a9:Bool)=>(bif a9 then((aks fu a0.1 a0.2).bind fun(a4:(Str×Int×UInt8))=>(if a4.2.2=(0:UInt8)then some ((a2,a4.1,true),(0:Int),(0:UInt8),(a0.1,a4.2.1))else some ((([]:Str),([]:Str),false),a4.2.1,a4.2.2,a0)))else((aad fu a0 (91:UInt8)).bind fun(b0:Bool)=>(bif b0 then((aai fu a0.1 a0.2 ([93]:Str)).bind fun(a1:Int)=>(gd (aay (a1+(1:Int)))<|(gd (0≤a0.2∧a0.2≤(min (a1+(1:Int)) (a0.1.length:Int))∧(min (a1+(1:Int)) (a0.1.length:Int))≤(a0.1.length:Int))<|((aeq fu (sub a0.1 a0.2 (min (a1+(1:Int)) (a0.1.length:Int)))).bind fun(a6:(Str×Bool))=>(bif (!a6.2)then some ((([]:Str),([]:Str),false),a0.2,(5:UInt8),a0)else(gd (aay (a1+(1:Int)))<|some ((a2,a6.1,true),(0:Int),(0:UInt8),(a0.1,a1+(1:Int)))))))))else((adk fu a0).bind fun(a5:(Str×(Str×Int)))=>(if a5.1=([]:Str)then some ((([]:Str),([]:Str),false),a5.2.2,(5:UInt8),a5.2)else some ((a2,a5.1,true),(0:Int),(0:UInt8),a5.2)))))))))))))))
def ajn(fu:Nat)(a5:(List PQ)→Str→Int→Option ((List PQ)×Int×UInt8))(a2:List PQ)(a6:Str)(a7:Int):Option ((List PQ)×Int×UInt8):=
 ((abi fu (a6,a7)).bind fun(a1:(Str×Int))=>((abz fu a1).bind fun(a8:Bool)=>(bif a8 then some (a2,(0:Int),(0:UInt8))else((aad fu a1 (59:UInt8)).bind fun(a9:Bool)=>(bif (!a9)then some (([]:List PQ),a1.2,(5:UInt8))else(gd (aay (a1.2+(1:Int)))<|((abi fu (a1.1,a1.2+(1:Int))).bind fun(a4:(Str×Int))=>((agx fu a4).bind fun(a0:(PQ×Int×UInt8×(Str×Int)))=>(((if a0.2.2.1=(0:UInt8)then((alp fu a2 a0.1.1).bind fun(b0:UInt8)=>some (a4.2,b0))else some (a0.2.1,a0.2.2.1))).bind fun(a3:(Int×UInt8))=>(if a3.2=(0:UInt8)then(gd ((a2.length+([a0.1]:List PQ).length)*40≤140737488355328)<|(a5 (a2++([a0.1]:List PQ)) a0.2.2.2.1 a0.2.2.2.2))else some (([]:List PQ),a3.1,a3.2)))))))))))
def akl(fu:Nat):Nat→(List PQ)→Str→Int→Option ((List PQ)×Int×UInt8):=fun k_ a0 a1 a2=>loopF (fun(g:((List PQ)×Str×Int)→Option ((List PQ)×Int×UInt8)) v=>ajn fu (fun a0 a1 a2=>g (a0,a1,a2)) v.1 v.2.1 v.2.2) k_ (a0,a1,a2)
theorem apg{fu:Nat}{k_:Nat}{a0:List PQ}{a1:Str}{a2:Int}:akl fu (k_+1) a0 a1 a2=ajn fu (akl fu k_) a0 a1 a2:=rfl
def aiz(fu:Nat)(s_0:Str):Option ((List PQ)×Int×UInt8):=
 (akl fu fu ([]:List PQ) s_0 (0:Int))
def aig(fu:Nat)(s_0:Str):Option ((Str×(Str×Str×Str×Int×(List PQ)×(List PQ))×(List PQ))×Int×UInt8):=
 (if(1024:Int)<(s_0.length:Int)then some ((([]:Str),(([]:Str),([]:Str),([]:Str),(0:Int),([]:List PQ),([]:List PQ)),([]:List PQ)),(1024:Int),(4:UInt8))else((abi fu (s_0,(0:Int))).bind fun(a5:(Str×Int))=>((((aad fu a5 (34:UInt8)).bind fun(a8:Bool)=>(bif a8 then((afb fu a5 (([]:Str),(([]:Str),([]:Str),([]:Str),(0:Int),([]:List PQ),([]:List PQ)),([]:List PQ))).bind fun(a2:(Int×UInt8×(Str×Int)×(Str×(Str×Str×Str×Int×(List PQ)×(List PQ))×(List PQ))))=>some (a2.1,a2.2.1,a2.2.2.1.1,a2.2.2.1.2,a2.2.2.2.1,a2.2.2.2.2.1.1,a2.2.2.2.2.1.2.1,a2.2.2.2.2.1.2.2.1,a2.2.2.2.2.1.2.2.2.1,a2.2.2.2.2.1.2.2.2.2.1,a2.2.2.2.2.1.2.2.2.2.2,a2.2.2.2.2.2))else(gd (s_0.length≤1000000000)<|(bif (Lib.contains s_0 ([60]:Str))then((acg fu a5 (([]:Str),(([]:Str),([]:Str),([]:Str),(0:Int),([]:List PQ),([]:List PQ)),([]:List PQ))).bind fun(a3:(Int×UInt8×(Str×Int)×(Str×(Str×Str×Str×Int×(List PQ)×(List PQ))×(List PQ))))=>some (a3.1,a3.2.1,a3.2.2.1.1,a3.2.2.1.2,a3.2.2.2.1,a3.2.2.2.2.1.1,a3.2.2.2.2.1.2.1,a3.2.2.2.2.1.2.2.1,a3.2.2.2.2.1.2.2.2.1,a3.2.2.2.2.1.2.2.2.2.1,a3.2.2.2.2.1.2.2.2.2.2,a3.2.2.2.2.2))else some ((0:Int),(0:UInt8),a5.1,a5.2,([]:Str),([]:Str),([]:Str),([]:Str),(0:Int),([]:List PQ),([]:List PQ),([]:List PQ))))))).bind fun(a0:(Int×UInt8×Str×Int×Str×Str×Str×Str×Int×(List PQ)×(List PQ)×(List PQ)))=>(((if a0.2.1=(0:UInt8)then((afa fu (a0.2.2.1,a0.2.2.2.1) (a0.2.2.2.2.1,(a0.2.2.2.2.2.1,a0.2.2.2.2.2.2.1,a0.2.2.2.2.2.2.2.1,a0.2.2.2.2.2.2.2.2.1,a0.2.2.2.2.2.2.2.2.2.1,a0.2.2.2.2.2.2.2.2.2.2.1),a0.2.2.2.2.2.2.2.2.2.2.2)).bind fun(a4:(Int×UInt8×(Str×Int)×(Str×(Str×Str×Str×Int×(List PQ)×(List PQ))×(List PQ))))=>some (a4.1,a4.2.1,a4.2.2.1.1,a4.2.2.1.2,a4.2.2.2.1,a4.2.2.2.2.1.1,a4.2.2.2.2.1.2.1,a4.2.2.2.2.1.2.2.1,a4.2.2.2.2.1.2.2.2.1,a4.2.2.2.2.1.2.2.2.2.1,a4.2.2.2.2.1.2.2.2.2.2,a4.2.2.2.2.2))else some (a0.1,a0.2.1,a0.2.2.1,a0.2.2.2.1,a0.2.2.2.2.1,a0.2.2.2.2.2.1,a0.2.2.2.2.2.2.1,a0.2.2.2.2.2.2.2.1,a0.2.2.2.2.2.2.2.2.1,a0.2.2.2.2.2.2.2.2.2.1,a0.2.2.2.2.2.2.2.2.2.2.1,a0.2.2.2.2.2.2.2.2.2.2.2))).bind fun(a1:(Int×UInt8×Str×Int×Str×Str×Str×Str×Int×(List PQ)×(List PQ)×(List PQ)))=>(((if a1.2.1=(0:UInt8)then(gd (0≤a1.2.2.2.1∧a1.2.2.2.1≤(s_0.length:Int))<|((aiz fu (zax (zaj a1.2.2.2.1) s_0)).bind fun(a6:((List PQ)×Int×UInt8))=>(gd (aay (a6.2.1+a1.2.2.2.1))<|some (a6.2.1+a1.2.2.2.1,a6.2.2,a6.1))))else some (a1.1,a1.2.1,a1.2.2.2.2.2.2.2.2.2.2.2))).bind fun(a7:(Int×UInt8×(List PQ)))=>(if a7.2.1=(0:UInt8)then some ((a1.2.2.2.2.1,(a1.2.2.2.2.2.1,a1.2.2.2.2.2.2.1,a1.2.2.2.2.2.2.2.1,a1.2.2.2.2.2.2.2.2.1,a1.2.2.2.2.2.2.2.2.2.1,a1.2.2.2.2.2.2.2.2.2.2.1),a7.2.2),(0:Int),(0:UInt8))else some ((([]:Str),(([]:Str),([]:Str),([]:Str),(0:Int),([]:List PQ),([]:List PQ)),([]:List PQ)),a7.1,a7.2.1)))))))
def afh(fu:Nat)(a0:Str):Option ((Str×(Str×Str×Str×Int×(List PQ)×(List PQ))×(List PQ))×UInt8):=
 ((aex fu a0).bind fun(y4:Str)=>((aig fu y4).bind fun(y9:((Str×(Str×Str×Str×Int×(List PQ)×(List PQ))×(List PQ))×Int×UInt8))=>some (y9.1,y9.2.2)))
def ama(fu:Nat)(s_0:Str)(a3:(List UInt8)→Int→Option ((List UInt8)⊕(Str×UInt8)))(a1:List UInt8)(a0:Int):Option ((List UInt8)⊕(Str×UInt8)):=
 (if a0<(s_0.length:Int)then(gd (0≤a0∧a0<(s_0.length:Int))<|((agm fu (at_ s_0 a0)).bind fun(a4:Bool)=>(bif a4 then some (.inr (([]:Str),(5:UInt8)))else(((((if(at_ s_0 a0)=(34:UInt8)then some true else some (decide ((at_ s_0 a0)=(92:UInt8))))).bind fun(a5:Bool)=>(bif a5 then(gd ((a1.length+([(92:UInt8)]:List UInt8).length)*1≤140737488355328)<|some (a1++([(92:UInt8)]:List UInt8)))else some a1))).bind fun(a2:List UInt8)=>(gd (0≤a0∧a0<(s_0.length:Int))<|(gd ((a2.length+([at_ s_0 a0]:List UInt8).length)*1≤140737488355328)<|(gd (aay (a0+(1:Int)))<|(a3 (a2++([at_ s_0 a0]:List UInt8)) (a0+(1:Int))))))))))else some (.inl a1))
def ahj(fu:Nat)(s_0:Str):Nat→(List UInt8)→Int→Option ((List UInt8)⊕(Str×UInt8)):=fun k_ a0 a1=>loopF (fun(g:((List UInt8)×Int)→Option ((List UInt8)⊕(Str×UInt8))) v=>ama fu s_0 (fun a0 a1=>g (a0,a1)) v.1 v.2) k_ (a0,a1)
theorem arq{fu:Nat}{s_0:Str}{k_:Nat}{a0:List UInt8}{a1:Int}:ahj fu s_0 (k_+1) a0 a1=ama fu s_0 (ahj fu s_0 k_) a0 a1:=rfl
def amw(fu:Nat)(s_0:Str):Option (Str×UInt8):=
 (gd (aay ((s_0.length:Int)+(2:Int)))<|(@gd _ (0≤((s_0.length:Int)+(2:Int))∧(1:Int)*((s_0.length:Int)+(2:Int))≤281474976710656) (dMk 1 ((s_0.length:Int)+(2:Int)))<|(gd ((([]:List UInt8).length+([(34:UInt8)]:List UInt8).length)*1≤140737488355328)<|(((ahj fu s_0 fu (([]:List UInt8)++([(34:UInt8)]:List UInt8)) (0:Int))).bind fun(a1:((List UInt8)⊕(Str×UInt8)))=>zaJ (fun(a0:List UInt8)=>(gd ((a0.length+([(34:UInt8)]:List UInt8).length)*1≤140737488355328)<|some (a0++([(34:UInt8)]:List UInt8),(0:UInt8)))) (fun q=>some q) a1))))
open Go.Lib renaming hasPrefix → zba, itoa → zaZ, trimPrefix → zas
def agp(fu:Nat)(s_0:Str)(a1:Int→Option (Unit⊕Bool))(a0:Int):Option (Unit⊕Bool):=
 (if a0<(s_0.length:Int)then(gd (0≤a0∧a0<(s_0.length:Int))<|((anb fu (at_ s_0 a0)).bind fun(a2:Bool)=>(bif a2 then some (.inr false)else(gd (aay (a0+(1:Int)))<|(a1 (a0+(1:Int)))))))else some (.inl ()))
def ali(fu:Nat)(s_0:Str):Nat→Int→Option (Unit⊕Bool):=fun k_ a0=>loopF (fun(g:Int→Option (Unit⊕Bool)) v=>agp fu s_0 (fun a0=>g a0) v) k_ a0
theorem amq{fu:Nat}{s_0:Str}{k_:Nat}{a0:Int}:ali fu s_0 (k_+1) a0=agp fu s_0 (ali fu s_0 k_) a0:=rfl
def akx(fu:Nat)(s_0:Str):Option Bool:=
 (((ali fu s_0 fu (0:Int))).bind fun(a0:(Unit⊕Bool))=>zaJ (fun(a1:Unit)=>some true) (fun q=>some q) a0)
def afy(fu:Nat)(s_0:Str)(a1:Int→Option (Unit⊕Bool))(a0:Int):Option (Unit⊕Bool):=
 (if a0<((zas s_0 ([43]:Str)).length:Int)then(gd (0≤a0∧a0<((zas s_0 ([43]:Str)).length:Int))<|((((acl fu (at_ (zas s_0 ([43]:Str)) a0)).bind fun(a2:Bool)=>(bif (!a2)then(bif (zba s_0 ([43]:Str))then some true else(if(at_ (zas s_0 ([43]:Str)) a0)=(42:UInt8)then some false else some (!decide ((at_ (zas s_0 ([43]:Str)) a0)=(35:UInt8)))))else some false))).bind fun(a3:Bool)=>(bif a3 then some (.inr false)else(gd (aay (a0+(1:Int)))<|(a1 (a0+(1:Int)))))))else some (.inl ()))
def aki(fu:Nat)(s_0:Str):Nat→Int→Option (Unit⊕Bool):=fun k_ a0=>loopF (fun(g:Int→Option (Unit⊕Bool)) v=>afy fu s_0 (fun a0=>g a0) v) k_ a0
theorem alt{fu:Nat}{s_0:Str}{k_:Nat}{a0:Int}:aki fu s_0 (k_+1) a0=afy fu s_0 (aki fu s_0 k_) a0:=rfl
def ant(fu:Nat)(s_0:Str):Option Bool:=
 (((if(zas s_0 ([43]:Str))=([]:Str)then some true else some (decide ((30:Int)<((zas s_0 ([43]:Str)).length:Int))))).bind fun(v8:Bool)=>(bif v8 then some false else(((aki fu s_0 fu (0:Int))).bind fun(a0:(Unit⊕Bool))=>zaJ (fun(a1:Unit)=>some true) (fun q=>some q) a0)))
def ajj(fu:Nat)(a1:List PQ)(a4:Int)(a5:(List PQ)→Int→Option ((List PQ)⊕((List PQ)×Bool)))(a3:List PQ)(a0:Int):Option ((List PQ)⊕((List PQ)×Bool)):=
 (if a0<(a1.length:Int)then(gd (0≤a0∧a0<(a1.length:Int))<|(gd (0≤a0∧a0<(a1.length:Int))<|((abn fu ((el a1 a0).1)).bind fun(a2:Str)=>(((if a2=([]:Str)then some true else((akx fu a2).bind fun(a6:Bool)=>(bif (!a6)then some true else((akx fu ((el a1 a0).2.1)).bind fun(a7:Bool)=>(bif (!a7)then some true else((akw fu a3 a2).bind fun(a8:Bool)=>some a8))))))).bind fun(a9:Bool)=>(bif a9 then some (.inr (([]:List PQ),false))else(((if a4=(2:Int)then(bif (!((el a1 a0).2.2))then some true else(if a4=(1:Int)then some (!(((el a1 a0).2.2)==(!decide (((el a1 a0).2.1)=([]:Str)))))else some false))else(if a4=(1:Int)then some (!(((el a1 a0).2.2)==(!decide (((el a1 a0).2.1)=([]:Str)))))else some false))).bind fun(b0:Bool)=>(bif b0 then some (.inr (([]:List PQ),false))else(gd ((a3.length+([(a2,(el a1 a0).2.1,((el a1 a0).2.2))]:List PQ).length)*40≤140737488355328)<|(gd (aay (a0+(1:Int)))<|(a5 (a3++([(a2,(el a1 a0).2.1,((el a1 a0).2.2))]:List PQ)) (a0+(1:Int))))))))))))else some (.inl a3))
def ago(fu:Nat)(a2:List PQ)(a3:Int):Nat→(List PQ)→Int→Option ((List PQ)⊕((List PQ)×Bool)):=fun k_ a0 a1=>loopF (fun(g:((List PQ)×Int)→Option ((List PQ)⊕((List PQ)×Bool))) v=>ajj fu a2 a3 (fun a0 a1=>g (a0,a1)) v.1 v.2) k_ (a0,a1)
theorem apf{fu:Nat}{a0:List PQ}{a1:Int}{k_:Nat}{a2:List PQ}{a3:Int}:ago fu a0 a1 (k_+1) a2 a3=ajj fu a0 a1 (ago fu a0 a1 k_) a2 a3:=rfl
def alm(fu:Nat)(a0:List PQ)(a1:Int):Option ((List PQ)×Bool):=
 (if(16:Int)<(a0.length:Int)then some (([]:List PQ),false)else(((ago fu a0 a1 fu ([]:List PQ) (0:Int))).bind fun(a2:((List PQ)⊕((List PQ)×Bool)))=>zaJ (fun(a3:List PQ)=>((adr fu a3).bind fun(a4:List PQ)=>some (a4,true))) (fun q=>some q) a2))
def anu(fu:Nat)(a0:(Str×Str×Str×Int×(List PQ)×(List PQ))):Option ((Str×Str×Str×Int×(List PQ)×(List PQ))×UInt8):=
 ((abn fu a0.1).bind fun(y7:Str)=>(((((if y7=([115,105,112]:Str)then some (decide (y7=([115,105,112]:Str)))else some (decide (y7=([115,105,112,115]:Str))))).bind fun(a5:Bool)=>(bif a5 then((aeq fu a0.2.2.1).bind fun(a1:(Str×Bool))=>(bif a1.2 then(if(0:Int)≤a0.2.2.2.1 then(if a0.2.2.2.1≤(65535:Int)then((akx fu a0.2.1).bind fun(a6:Bool)=>some (a6,a1.1))else some (false,a1.1))else some (false,a1.1))else some (false,a1.1)))else(if y7=([116,101,108]:Str)then(if a0.2.2.1=([]:Str)then(if a0.2.2.2.1=(0:Int)then(if(a0.2.2.2.2.2.length:Int)=(0:Int)then((ant fu a0.2.1).bind fun(a7:Bool)=>some (a7,([]:Str)))else some (false,([]:Str)))else some (false,([]:Str)))else some (false,([]:Str)))else some (false,([]:Str)))))).bind fun(a2:(Bool×Str))=>((alm fu a0.2.2.2.2.1 (1:Int)).bind fun(a3:((List PQ)×Bool))=>((alm fu a0.2.2.2.2.2 (2:Int)).bind fun(a4:((List PQ)×Bool))=>(((bif (!a2.1)then some true else(bif (!a3.2)then some true else some (!a4.2)))).bind fun(a8:Bool)=>(bif a8 then some ((([]:Str),([]:Str),([]:Str),(0:Int),([]:List PQ),([]:List PQ)),(2:UInt8))else some ((y7,a0.2.1,a2.2,a0.2.2.2.1,a3.1,a4.1),(0:UInt8))))))))
def aac(fu:Nat)(a1:(Unit×(List UInt8)))(a0:Str):Option (Int×Unit×(Unit×(List UInt8))):=
 (gd ((a1.2.length+a0.length)*1≤140737488355328)<|some ((a0.length:Int),(),((),a1.2++a0)))
def ajp(fu:Nat)(s_0:Str)(a3:Int)(a2:(List UInt8)→Int→Option (List UInt8))(a1:List UInt8)(a0:Int):Option (List UInt8):=
 (if a0<(s_0.length:Int)then(gd (0≤a0∧a0<(s_0.length:Int))<|((akv fu (at_ s_0 a0) a3).bind fun(a4:Bool)=>(bif a4 then(gd (0≤a0∧a0<(s_0.length:Int))<|(gd ((a1.length+([at_ s_0 a0]:List UInt8).length)*1≤140737488355328)<|(gd (aay (a0+(1:Int)))<|(a2 (a1++([at_ s_0 a0]:List UInt8)) (a0+(1:Int))))))else(gd (0≤a0∧a0<(s_0.length:Int))<|(gd (0≤((shr8 (at_ s_0 a0) (4:Int)).toNat:Int)∧((shr8 (at_ s_0 a0) (4:Int)).toNat:Int)<(([48,49,50,51,52,53,54,55,56,57,65,66,67,68,69,70]:Str).length:Int))<|(gd (0≤a0∧a0<(s_0.length:Int))<|(gd (0≤(((at_ s_0 a0)&&&(15:UInt8)).toNat:Int)∧(((at_ s_0 a0)&&&(15:UInt8)).toNat:Int)<(([48,49,50,51,52,53,54,55,56,57,65,66,67,68,69,70]:Str).length:Int))<|(gd ((a1.length+([(37:UInt8),at_ ([48,49,50,51,52,53,54,55,56,57,65,66,67,68,69,70]:Str) ((shr8 (at_ s_0 a0) (4:Int)).toNat:Int),at_ ([48,49,50,51,52,53,54,55,56,57,65,66,67,68,69,70]:Str) (((at_ s_0 a0)&&&(15:UInt8)).toNat:Int)]:List UInt8).length)*1≤140737488355328)<|(gd (aay (a0+(1:Int)))<|(a2 (a1++([(37:UInt8),at_ ([48,49,50,51,52,53,54,55,56,57,65,66,67,68,69,70]:Str) ((shr8 (at_ s_0 a0) (4:Int)).toNat:Int),at_ ([48,49,50,51,52,53,54,55,56,57,65,66,67,68,69,70]:Str) (((at_ s_0 a0)&&&(15:UInt8)).toNat:Int)]:List UInt8)) (a0+(1:Int))))))))))))else some a1)
def agq(fu:Nat)(s_0:Str)(a2:Int):Nat→(List UInt8)→Int→Option (List UInt8):=fun k_ a0 a1=>loopF (fun(g:((List UInt8)×Int)→Option (List UInt8)) v=>ajp fu s_0 a2 (fun a0 a1=>g (a0,a1)) v.1 v.2) k_ (a0,a1)
theorem aph{fu:Nat}{s_0:Str}{a0:Int}{k_:Nat}{a1:List UInt8}{a2:Int}:agq fu s_0 a0 (k_+1) a1 a2=ajp fu s_0 a0 (agq fu s_0 a0 k_) a1 a2:=rfl
def acm(fu:Nat)(s_0:Str)(a0:Int):Option Str:=
 (@gd _ (0≤(s_0.length:Int)∧(1:Int)*(s_0.length:Int)≤281474976710656) (dMk 1 (s_0.length:Int))<|(((agq fu s_0 a0 fu ([]:List UInt8) (0:Int))).bind fun(a1:List UInt8)=>some a1))
def acw(fu:Nat)(a0:(Unit×(List UInt8)))(a1:UInt8):Option (Unit×(Unit×(List UInt8))):=
 (gd ((a0.2.length+([a1]:List UInt8).length)*1≤140737488355328)<|some ((),((),a0.2++([a1]:List UInt8))))
def akk(fu:Nat)(y4:((Str×Str×Str×Int×(List PQ)×(List PQ))×UInt8))(a1:Int→Unit→(List UInt8)→Option (Unit×(List UInt8)))(a0:Int)(a7:Unit)(a2:List UInt8):Option (Unit×(List UInt8)):=
 (if a0<(y4.1.2.2.2.2.1.length:Int)then(gd (0≤a0∧a0<(y4.1.2.2.2.2.1.length:Int))<|(gd (0≤a0∧a0<(y4.1.2.2.2.2.1.length:Int))<|((acm fu ((el y4.1.2.2.2.2.1 a0).1) (1:Int)).bind fun(a3:Str)=>(gd (([59]:Str).length+a3.length≤9223372036854775807)<|((aac fu ((),a2) (([59]:Str)++a3)).bind fun(a4:(Int×Unit×(Unit×(List UInt8))))=>(bif ((el y4.1.2.2.2.2.1 a0).2.2)then((acm fu ((el y4.1.2.2.2.2.1 a0).2.1) (1:Int)).bind fun(a5:Str)=>(gd (([61]:Str).length+a5.length≤9223372036854775807)<|((aac fu ((),a4.2.2.2) (([61]:Str)++a5)).bind fun(a6:(Int×Unit×(Unit×(List UInt8))))=>(gd (aay (a0+(1:Int)))<|(a1 (a0+(1:Int)) () a6.2.2.2)))))else(gd (aay (a0+(1:Int)))<|(a1 (a0+(1:Int)) () a4.2.2.2))))))))else some ((),a2))
def afq(fu:Nat)(y4:((Str×Str×Str×Int×(List PQ)×(List PQ))×UInt8)):Nat→Int→Unit→(List UInt8)→Option (Unit×(List UInt8)):=fun k_ a0 a1 a2=>loopF (fun(g:(Int×Unit×(List UInt8))→Option (Unit×(List UInt8))) v=>akk fu y4 (fun a0 a1 a2=>g (a0,a1,a2)) v.1 v.2.1 v.2.2) k_ (a0,a1,a2)
theorem aqj{fu:Nat}{y4:((Str×Str×Str×Int×(List PQ)×(List PQ))×UInt8)}{k_:Nat}{a0:Int}{a1:Unit}{a2:List UInt8}:afq fu y4 (k_+1) a0 a1 a2=akk fu y4 (afq fu y4 k_) a0 a1 a2:=rfl
def akj(fu:Nat)(y4:((Str×Str×Str×Int×(List PQ)×(List PQ))×UInt8))(a4:Int→Unit→(List UInt8)→Option (Unit×(List UInt8)))(a0:Int)(a9:Unit)(a1:List UInt8):Option (Unit×(List UInt8)):=
 (if a0<(y4.1.2.2.2.2.2.length:Int)then(gd (0≤a0∧a0<(y4.1.2.2.2.2.2.length:Int))<|(gd (0≤a0∧a0<(y4.1.2.2.2.2.2.length:Int))<|(((if a0=(0:Int)then((acw fu ((),a1) (63:UInt8)).bind fun(a5:(Unit×(Unit×(List UInt8))))=>some ((),a5.2.2))else((acw fu ((),a1) (38:UInt8)).bind fun(a6:(Unit×(Unit×(List UInt8))))=>some ((),a6.2.2)))).bind fun(a7:(Unit×(List UInt8)))=>((acm fu ((el y4.1.2.2.2.2.2 a0).1) (2:Int)).bind fun(a2:Str)=>(gd (a2.length+([61]:Str).length≤9223372036854775807)<|((acm fu ((el y4.1.2.2.2.2.2 a0).2.1) (2:Int)).bind fun(a3:Str)=>(gd ((a2++([61]:Str)).length+a3.length≤9223372036854775807)<|((aac fu ((),a7.2) ((a2++([61]:Str))++a3)).bind fun(a8:(Int×Unit×(Unit×(List UInt8))))=>(gd (aay (a0+(1:Int)))<|(a4 (a0+(1:Int)) () a8.2.2.2))))))))))else some ((),a1))
def adz(fu:Nat)(y4:((Str×Str×Str×Int×(List PQ)×(List PQ))×UInt8)):Nat→Int→Unit→(List UInt8)→Option (Unit×(List UInt8)):=fun k_ a0 a1 a2=>loopF (fun(g:(Int×Unit×(List UInt8))→Option (Unit×(List UInt8))) v=>akj fu y4 (fun a0 a1 a2=>g (a0,a1,a2)) v.1 v.2.1 v.2.2) k_ (a0,a1,a2)
theorem aqi{fu:Nat}{y4:((Str×Str×Str×Int×(List PQ)×(List PQ))×UInt8)}{k_:Nat}{a0:Int}{a1:Unit}{a2:List UInt8}:adz fu y4 (k_+1) a0 a1 a2=akj fu y4 (adz fu y4 k_) a0 a1 a2:=rfl
def ams(fu:Nat)(a4:(Str×Str×Str×Int×(List PQ)×(List PQ))):Option (Str×UInt8):=
 ((anu fu a4).bind fun(y4:((Str×Str×Str×Int×(List PQ)×(List PQ))×UInt8))=>(if y4.2=(0:UInt8)then(gd (y4.1.1.length+([58]:Str).length≤9223372036854775807)<|((aac fu ((),([]:List UInt8)) (y4.1.1++([58]:Str))).bind fun(a0:(Int×Unit×(Unit×(List UInt8))))=>(((if y4.1.1=([116,101,108]:Str)then((aac fu ((),a0.2.2.2) y4.1.2.1).bind fun(a5:(Int×Unit×(Unit×(List UInt8))))=>some ((),a5.2.2.2))else(if y4.1.2.1=([]:Str)then some ((),a0.2.2.2)else((acm fu y4.1.2.1 (0:Int)).bind fun(a1:Str)=>(gd (a1.length+([64]:Str).length≤9223372036854775807)<|((aac fu ((),a0.2.2.2) (a1++([64]:Str))).bind fun(a6:(Int×Unit×(Unit×(List UInt8))))=>some ((),a6.2.2.2))))))).bind fun(a7:(Unit×(List UInt8)))=>((aac fu ((),a7.2) y4.1.2.2.1).bind fun(a2:(Int×Unit×(Unit×(List UInt8))))=>(((if y4.1.2.2.2.1=(0:Int)then some ((),a2.2.2.2)else(gd (aay y4.1.2.2.2.1)<|(gd (([58]:Str).length+(zaZ y4.1.2.2.2.1).length≤9223372036854775807)<|((aac fu ((),a2.2.2.2) (([58]:Str)++(zaZ y4.1.2.2.2.1))).bind fun(a8:(Int×Unit×(Unit×(List UInt8))))=>some ((),a8.2.2.2)))))).bind fun(a9:(Unit×(List UInt8)))=>(((afq fu y4 fu (0:Int) () a9.2)).bind fun(b0:(Unit×(List UInt8)))=>(((adz fu y4 fu (0:Int) () b0.2)).bind fun(a3:(Unit×(List UInt8)))=>(gd (a3.2.length≤140737488355328)<|some (a3.2,(0:UInt8))))))))))else some (([]:Str),y4.2)))
open Go.Lib renaming indexAny → zbe
def afl(fu:Nat)(a1:List PQ)(a2:Int→Unit→(List UInt8)→Option ((Unit×(List UInt8))⊕(Str×UInt8)))(a0:Int)(b6:Unit)(a3:List UInt8):Option ((Unit×(List UInt8))⊕(Str×UInt8)):=
 (if a0<(a1.length:Int)then(gd (0≤a0∧a0<(a1.length:Int))<|(gd (0≤a0∧a0<(a1.length:Int))<|((((aft fu ((el a1 a0).1)).bind fun(a8:Bool)=>(bif (!a8)then some true else((abn fu ((el a1 a0).1)).bind fun(a9:Str)=>(if((el a1 a0).1)=a9 then(gd (0≤a0∧a0≤(a1.length:Int))<|((akw fu (List.take (zaj a0) a1) ((el a1 a0).1)).bind fun(b0:Bool)=>some b0))else some true))))).bind fun(b1:Bool)=>(bif b1 then some (.inr (([]:Str),(2:UInt8)))else(gd (([59]:Str).length+((el a1 a0).1).length≤9223372036854775807)<|((aac fu ((),a3) (([59]:Str)++((el a1 a0).1))).bind fun(a4:(Int×Unit×(Unit×(List UInt8))))=>(bif (!((el a1 a0).2.2))then(if((el a1 a0).2.1)=([]:Str)then(gd (aay (a0+(1:Int)))<|(a2 (a0+(1:Int)) () a4.2.2.2))else some (.inr (([]:Str),(2:UInt8))))else((((aeq fu ((el a1 a0).2.1)).bind fun(a5:(Str×Bool))=>((((aft fu ((el a1 a0).2.1)).bind fun(b2:Bool)=>(bif (!b2)then(bif a5.2 then(if a5.1=((el a1 a0).2.1)then(gd (0≤(0:Int)∧(0:Int)<(((el a1 a0).2.1).length:Int))<|some (!decide ((at_ ((el a1 a0).2.1) (0:Int))=(91:UInt8))))else some true)else some true)else some false))).bind fun(b3:Bool)=>(bif b3 then((amw fu ((el a1 a0).2.1)).bind fun(a6:(Str×UInt8))=>(if a6.2=(0:UInt8)then some (.inl a6.1)else some (.inr (([]:Str),(2:UInt8)))))else some (.inl ((el a1 a0).2.1)))))).bind fun(b4:(Str⊕(Str×UInt8)))=>zaJ (fun(a7:Str)=>(gd (([61]:Str).length+a7.length≤9223372036854775807)<|((aac fu ((),a4.2.2.2) (([61]:Str)++a7)).bind fun(b5:(Int×Unit×(Unit×(List UInt8))))=>(gd (aay (a0+(1:Int)))<|(a2 (a0+(1:Int)) () b5.2.2.2))))) (fun q=>some (.inr q)) b4))))))))else some (.inl ((),a3)))
def acp(fu:Nat)(a3:List PQ):Nat→Int→Unit→(List UInt8)→Option ((Unit×(List UInt8))⊕(Str×UInt8)):=fun k_ a0 a1 a2=>loopF (fun(g:(Int×Unit×(List UInt8))→Option ((Unit×(List UInt8))⊕(Str×UInt8))) v=>afl fu a3 (fun a0 a1 a2=>g (a0,a1,a2)) v.1 v.2.1 v.2.2) k_ (a0,a1,a2)
theorem amr{fu:Nat}{a0:List PQ}{k_:Nat}{a1:Int}{a2:Unit}{a3:List UInt8}:acp fu a0 (k_+1) a1 a2 a3=afl fu a0 (acp fu a0 k_) a1 a2 a3:=rfl
def aeh(fu:Nat)(a0:List PQ):Option (Str×UInt8):=
 (if(16:Int)<(a0.length:Int)then some (([]:Str),(2:UInt8))else(((acp fu a0 fu (0:Int) () ([]:List UInt8))).bind fun(a2:((Unit×(List UInt8))⊕(Str×UInt8)))=>zaJ (fun(a1:(Unit×(List UInt8)))=>(gd (a1.2.length≤140737488355328)<|some (a1.2,(0:UInt8)))) (fun q=>some q) a2))
def afp(fu:Nat)(a2:(Str×(Str×Str×Str×Int×(List PQ)×(List PQ))×(List PQ))):Option (Str×UInt8):=
 ((amw fu a2.1).bind fun(y4:(Str×UInt8))=>(if y4.2=(0:UInt8)then((ams fu a2.2.1).bind fun(a0:(Str×UInt8))=>(if a0.2=(0:UInt8)then((adr fu a2.2.2).bind fun(a3:List PQ)=>((aeh fu a3).bind fun(a1:(Str×UInt8))=>(if a1.2=(0:UInt8)then(if a2.1=([]:Str)then(gd (([60]:Str).length+a0.1.length≤9223372036854775807)<|(gd ((([60]:Str)++a0.1).length+([62]:Str).length≤9223372036854775807)<|(gd (((([60]:Str)++a0.1)++([62]:Str)).length+a1.1.length≤9223372036854775807)<|some (((([60]:Str)++a0.1)++([62]:Str))++a1.1,(0:UInt8)))))else(gd (y4.1.length+([32,60]:Str).length≤9223372036854775807)<|(gd ((y4.1++([32,60]:Str)).length+a0.1.length≤9223372036854775807)<|(gd (((y4.1++([32,60]:Str))++a0.1).length+([62]:Str).length≤9223372036854775807)<|(gd ((((y4.1++([32,60]:Str))++a0.1)++([62]:Str)).length+a1.1.length≤9223372036854775807)<|some ((((y4.1++([32,60]:Str))++a0.1)++([62]:Str))++a1.1,(0:UInt8)))))))else some (([]:Str),(2:UInt8)))))else some (([]:Str),(2:UInt8))))else some (([]:Str),(2:UInt8))))
def amo(fu:Nat)(s_0:Str)(a2:Str→Int→Option Str)(a1:Str)(a0:Int):Option Str:=
 (if a0<(s_0.length:Int)then(gd (0≤a0∧a0<(a1.length:Int))<|(gd (0≤a0∧a0<(a1.length:Int))<|((aox fu (at_ a1 a0)).bind fun(a3:UInt8)=>(gd (0≤a0∧a0<(a1.length:Int))<|(gd (0≤a0∧a0<(a1.length:Int))<|(gd (aay (a0+(1:Int)))<|(a2 (zaE a1 (zaj a0) a3) (a0+(1:Int)))))))))else some a1)
def amx(fu:Nat)(s_0:Str):Nat→Str→Int→Option Str:=fun k_ a0 a1=>loopF (fun(g:(Str×Int)→Option Str) v=>amo fu s_0 (fun a0 a1=>g (a0,a1)) v.1 v.2) k_ (a0,a1)
def aco(fu:Nat)(s_0:Str):Option Str:=
 (((amx fu s_0 fu s_0 (0:Int))).bind fun(a0:Str)=>some a0)
def L_header_cutPort(fu:Nat)(s_0:Str):Option PQ:=
 (gd (s_0.length≤1000000000)<|(((if(lixb (·==(58:UInt8)) s_0)<(0:Int)then some true else(gd (0≤(lixb (·==(58:UInt8)) s_0)∧(lixb (·==(58:UInt8)) s_0)≤(s_0.length:Int))<|(gd ((List.take (zaj (lixb (·==(58:UInt8)) s_0)) s_0).length≤1000000000)<|(bif (Lib.contains (List.take (zaj (lixb (·==(58:UInt8)) s_0)) s_0) ([91]:Str))then(gd (0≤(lixb (·==(58:UInt8)) s_0)∧(lixb (·==(58:UInt8)) s_0)≤(s_0.length:Int))<|(gd ((zax (zaj (lixb (·==(58:UInt8)) s_0)) s_0).length≤1000000000)<|some (Lib.contains (zax (zaj (lixb (·==(58:UInt8)) s_0)) s_0) ([93]:Str))))else some false))))).bind fun(a0:Bool)=>(bif a0 then some (s_0,([]:Str),false)else(gd (0≤(lixb (·==(58:UInt8)) s_0)∧(lixb (·==(58:UInt8)) s_0)≤(s_0.length:Int))<|(gd (aay ((lixb (·==(58:UInt8)) s_0)+(1:Int)))<|(gd (0≤((lixb (·==(58:UInt8)) s_0)+(1:Int))∧((lixb (·==(58:UInt8)) s_0)+(1:Int))≤(s_0.length:Int))<|some (List.take (zaj (lixb (·==(58:UInt8)) s_0)) s_0,zax (zaj ((lixb (·==(58:UInt8)) s_0)+(1:Int))) s_0,true)))))))
def ame(fu:Nat)(a1:List PQ)(y1:Str)(a2:Int→Option (Unit⊕(Str×Bool)))(a0:Int):Option (Unit⊕(Str×Bool)):=
 (if a0<(a1.length:Int)then(gd (0≤a0∧a0<(a1.length:Int))<|(gd (0≤a0∧a0<(a1.length:Int))<|((abn fu ((el a1 a0).1)).bind fun(a3:Str)=>(if a3=y1 then some (.inr ((el a1 a0).2.1,true))else(gd (aay (a0+(1:Int)))<|(a2 (a0+(1:Int))))))))else some (.inl ()))
def akz(fu:Nat)(a1:List PQ)(y1:Str):Nat→Int→Option (Unit⊕(Str×Bool)):=fun k_ a0=>loopF (fun(g:Int→Option (Unit⊕(Str×Bool))) v=>ame fu a1 y1 (fun a0=>g a0) v) k_ a0
theorem art{fu:Nat}{a0:List PQ}{y1:Str}{k_:Nat}{a1:Int}:akz fu a0 y1 (k_+1) a1=ame fu a0 y1 (akz fu a0 y1 k_) a1:=rfl
def ajo(fu:Nat)(a0:List PQ)(a1:Str):Option (Str×Bool):=
 ((abn fu a1).bind fun(y1:Str)=>(((akz fu a0 y1 fu (0:Int))).bind fun(a2:(Unit⊕(Str×Bool)))=>zaJ (fun(a3:Unit)=>some (([]:Str),false)) (fun q=>some q) a2))
def L_header_Via(fu:Nat)(a8:Str):Option ((Str×Str×Int×Str×(List PQ))×UInt8):=
 ((aex fu a8).bind fun(y4:Str)=>(((if(y4.length:Int)<(8:Int)then some true else(gd (0≤(8:Int)∧(8:Int)≤(y4.length:Int))<|((aco fu (List.take (zaj (8:Int)) y4)).bind fun(a9:Str)=>some (!decide (a9=([83,73,80,47,50,46,48,47]:Str))))))).bind fun(b0:Bool)=>(bif b0 then some ((([]:Str),([]:Str),(0:Int),([]:Str),([]:List PQ)),(5:UInt8))else((adq fu y4 (8:Int)).bind fun(a1:Int)=>((ajv fu y4 a1).bind fun(a0:Int)=>(((if a1=(8:Int)then some true else some (decide (a0=a1)))).bind fun(b1:Bool)=>(bif b1 then some ((([]:Str),([]:Str),(0:Int),([]:Str),([]:List PQ)),(5:UInt8))else(gd (0≤(8:Int)∧(8:Int)≤a1∧a1≤(y4.length:Int))<|((aco fu (sub y4 (8:Int) a1)).bind fun(b2:Str)=>(gd (0≤a0∧a0≤(y4.length:Int))<|(((gd ((zax (zaj a0) y4).length≤1000000000∧([59,32,9]:Str).length≤1000∧([59,32,9]:Str).all (fun b=>decide (b.toNat<128))=true)<|(if(0:Int)≤(zbe (zax (zaj a0) y4) ([59,32,9]:Str))then(gd (0≤(zbe (zax (zaj a0) y4) ([59,32,9]:Str))∧(zbe (zax (zaj a0) y4) ([59,32,9]:Str))≤((zax (zaj a0) y4).length:Int))<|(gd (0≤(zbe (zax (zaj a0) y4) ([59,32,9]:Str))∧(zbe (zax (zaj a0) y4) ([59,32,9]:Str))≤((zax (zaj a0) y4).length:Int))<|some (List.take (zaj (zbe (zax (zaj a0) y4) ([59,32,9]:Str))) (zax (zaj a0) y4),zax (zaj (zbe (zax (zaj a0) y4) ([59,32,9]:Str))) (zax (zaj a0) y4))))else some (zax (zaj a0) y4,([]:Str))))).bind fun(a5:(Str×Str))=>((L_header_cutPort fu a5.1).bind fun(a4:PQ)=>((aeq fu a4.1).bind fun(a6:(Str×Bool))=>(bif (!a6.2)then some ((([]:Str),([]:Str),(0:Int),([]:Str),([]:List PQ)),(5:UInt8))else(((bif a4.2.2 then((agz fu a4.2.1).bind fun(a2:(Int×UInt8))=>(((((if a2.2=(0:UInt8)then(if a2.1<(1:Int)then some true else some (decide ((65535:Int)<a2.1)))else some false)).bind fun(b3:Bool)=>(bif b3 then some (3:UInt8)else some a2.2))).bind fun(a7:UInt8)=>(if a7=(0:UInt8)then some (.inl a2.1)else some (.inr ((([]:Str),([]:Str),(0:Int),([]:Str),([]:List PQ)),a7)))))else some (.inl (0:Int)))).bind fun(b4:(Int⊕((Str×Str×Int×Str×(List PQ))×UInt8)))=>zaJ (fun(b5:Int)=>((aiz fu a5.2).bind fun(a3:((List PQ)×Int×UInt8))=>(if a3.2.2=(0:UInt8)then((ajo fu a3.1 ([98,114,97,110,99,104]:Str)).bind fun(b6:(Str×Bool))=>some ((b2,a6.1,b5,b6.1,a3.1),(0:UInt8)))else some ((([]:Str),([]:Str),(0:Int),([]:Str),([]:List PQ)),a3.2.2)))) (fun q=>some q) b4)))))))))))))))
def aml(fu:Nat)(s_0:List PQ):Option (List PQ):=
 some s_0
def abs(fu:Nat)(a0:PQ)(a1:List PQ):Option (Nat×(List PQ)):=
 (gd ((a1.length+([a0]:List PQ).length)*40≤140737488355328)<|some (0,a1++([a0]:List PQ)))
def aav(fu:Nat)(a1:List PQ)(a4:Int→(List PQ)→Option ((List PQ)×Nat))(a0:Int)(a3:List PQ):Option ((List PQ)×Nat):=
 (if a0<(a1.length:Int)then(gd (0≤a0∧a0<(a1.length:Int))<|(gd (0≤a0∧a0<(a1.length:Int))<|((abs fu ((el a1 a0).1,(el a1 a0).2.1,((el a1 a0).2.2)) a3).bind fun(a2:(Nat×(List PQ)))=>(if a2.1=0 then(gd (aay (a0+(1:Int)))<|(a4 (a0+(1:Int)) a2.2))else some (a2.2,a2.1)))))else some (a3,0))
def aal(fu:Nat)(a2:List PQ):Nat→Int→(List PQ)→Option ((List PQ)×Nat):=fun k_ a0 a1=>loopF (fun(g:(Int×(List PQ))→Option ((List PQ)×Nat)) v=>aav fu a2 (fun a0 a1=>g (a0,a1)) v.1 v.2) k_ (a0,a1)
theorem ado{fu:Nat}{a0:List PQ}{k_:Nat}{a1:Int}{a2:List PQ}:aal fu a0 (k_+1) a1 a2=aav fu a0 (aal fu a0 k_) a1 a2:=rfl
def abb(fu:Nat)(a0:List PQ)(a1:List PQ):Option ((List PQ)×Nat):=
 (aal fu a1 fu (0:Int) a0)
def adn(fu:Nat)(s_0:List PQ)(a1:List PQ):Option (List PQ):=
 ((abb fu s_0 a1).bind fun(a0:((List PQ)×Nat))=>(if a0.2=0 then some a0.1 else none))
def aej(fu:Nat)(a0:List PQ):Option (List PQ):=
 ((adn fu ([]:List PQ) a0).bind fun(y1:List PQ)=>some y1)
def akt(fu:Nat)(a0:PQ)(a1:PQ):Option Int:=
 ((akg fu a0.1 a1.1).bind fun(y7:Int)=>some y7)
def afz(fu:Nat)(a2:Int)(a3:(List PQ)→Int→Option (List PQ))(a1:List PQ)(a0:Int):Option (List PQ):=
 (((if a2<a0 then(gd (0≤a0∧a0<(a1.length:Int))<|(gd (0≤a0∧a0<(a1.length:Int))<|(gd (aay (a0-(1:Int)))<|(gd (0≤(a0-(1:Int))∧(a0-(1:Int))<(a1.length:Int))<|(gd (0≤(a0-(1:Int))∧(a0-(1:Int))<(a1.length:Int))<|((akt fu ((el a1 a0).1,(el a1 a0).2.1,((el a1 a0).2.2)) ((el a1 (a0-(1:Int))).1,(el a1 (a0-(1:Int))).2.1,((el a1 (a0-(1:Int))).2.2))).bind fun(a4:Int)=>some (decide (a4<(0:Int)))))))))else some false)).bind fun(a5:Bool)=>(bif a5 then(gd (aay (a0-(1:Int)))<|(gd (aay (a0-(1:Int)))<|(gd (0≤(a0-(1:Int))∧(a0-(1:Int))<(a1.length:Int))<|(gd (0≤(a0-(1:Int))∧(a0-(1:Int))<(a1.length:Int))<|(gd (0≤a0∧a0<(a1.length:Int))<|(gd (0≤a0∧a0<(a1.length:Int))<|(gd (0≤a0∧a0<(a1.length:Int))<|(gd (0≤a0∧a0<(a1.length:Int))<|(gd (0≤(a0-(1:Int))∧(a0-(1:Int))<((zaE a1 (zaj a0) ((el a1 (a0-(1:Int))).1,(el a1 (a0-(1:Int))).2.1,((el a1 (a0-(1:Int))).2.2))).length:Int))<|(gd (0≤(a0-(1:Int))∧(a0-(1:Int))<((zaE a1 (zaj a0) ((el a1 (a0-(1:Int))).1,(el a1 (a0-(1:Int))).2.1,((el a1 (a0-(1:Int))).2.2))).length:Int))<|(gd (aay (a0-(1:Int)))<|(a3 (zaE (zaE a1 (zaj a0) ((el a1 (a0-(1:Int))).1,(el a1 (a0-(1:Int))).2.1,((el a1 (a0-(1:Int))).2.2))) (zaj (a0-(1:Int))) ((el a1 a0).1,(el a1 a0).2.1,((el a1 a0).2.2))) (a0-(1:Int))))))))))))))else some a1))
def agh(fu:Nat)(a2:Int):Nat→(List PQ)→Int→Option (List PQ):=fun k_ a0 a1=>loopF (fun(g:((List PQ)×Int)→Option (List PQ)) v=>afz fu a2 (fun a0 a1=>g (a0,a1)) v.1 v.2) k_ (a0,a1)
def aga(fu:Nat)(a2:Int)(a3:Int)(a4:(List PQ)→Int→Option (List PQ))(a1:List PQ)(a0:Int):Option (List PQ):=
 (if a0<a3 then(((agh fu a2 fu a1 a0)).bind fun(a5:List PQ)=>(gd (aay (a0+(1:Int)))<|(a4 a5 (a0+(1:Int)))))else some a1)
def agi(fu:Nat)(a2:Int)(a3:Int):Nat→(List PQ)→Int→Option (List PQ):=fun k_ a0 a1=>loopF (fun(g:((List PQ)×Int)→Option (List PQ)) v=>aga fu a2 a3 (fun a0 a1=>g (a0,a1)) v.1 v.2) k_ (a0,a1)
def abm(fu:Nat)(a1:List PQ)(a0:Int)(a2:Int):Option (List PQ):=
 (gd (aay (a0+(1:Int)))<|(agi fu a0 a2 fu a1 (a0+(1:Int))))
def ahh(fu:Nat)(a3:Int)(a2:Int)(a4:Int)(a5:(List PQ)→Int→Option (List PQ))(a1:List PQ)(a0:Int):Option (List PQ):=
 (if a0<a4 then(gd (aay (a3+a0))<|(gd (aay (a2+a0))<|(gd (aay (a2+a0))<|(gd (0≤(a2+a0)∧(a2+a0)<(a1.length:Int))<|(gd (0≤(a2+a0)∧(a2+a0)<(a1.length:Int))<|(gd (aay (a3+a0))<|(gd (0≤(a3+a0)∧(a3+a0)<(a1.length:Int))<|(gd (0≤(a3+a0)∧(a3+a0)<(a1.length:Int))<|(gd (0≤(a3+a0)∧(a3+a0)<(a1.length:Int))<|(gd (0≤(a3+a0)∧(a3+a0)<(a1.length:Int))<|(gd (0≤(a2+a0)∧(a2+a0)<((zaE a1 (zaj (a3+a0)) ((el a1 (a2+a0)).1,(el a1 (a2+a0)).2.1,((el a1 (a2+a0)).2.2))).length:Int))<|(gd (0≤(a2+a0)∧(a2+a0)<((zaE a1 (zaj (a3+a0)) ((el a1 (a2+a0)).1,(el a1 (a2+a0)).2.1,((el a1 (a2+a0)).2.2))).length:Int))<|(gd (aay (a0+(1:Int)))<|(a5 (zaE (zaE a1 (zaj (a3+a0)) ((el a1 (a2+a0)).1,(el a1 (a2+a0)).2.1,((el a1 (a2+a0)).2.2))) (zaj (a2+a0)) ((el a1 (a3+a0)).1,(el a1 (a3+a0)).2.1,((el a1 (a3+a0)).2.2))) (a0+(1:Int))))))))))))))))else some a1)
def ahy(fu:Nat)(a2:Int)(a3:Int)(a4:Int):Nat→(List PQ)→Int→Option (List PQ):=fun k_ a0 a1=>loopF (fun(g:((List PQ)×Int)→Option (List PQ)) v=>ahh fu a2 a3 a4 (fun a0 a1=>g (a0,a1)) v.1 v.2) k_ (a0,a1)
def abg(fu:Nat)(a0:List PQ)(a1:Int)(a2:Int)(a3:Int):Option (List PQ):=
 (ahy fu a1 a2 a3 fu a0 (0:Int))
def ait(fu:Nat)(a2:Int)(a4:(List PQ)→Int→Int→Option ((List PQ)×Int))(a3:List PQ)(a0:Int)(a1:Int):Option ((List PQ)×Int):=
 (if a0=a1 then some (a3,a0)else(if a1<a0 then(gd (aay (a2-a0))<|((abg fu a3 (a2-a0) a2 a1).bind fun(a5:List PQ)=>(gd (aay (a0-a1))<|(a4 a5 (a0-a1) a1))))else(gd (aay (a2-a0))<|(gd (aay (a2+a1))<|(gd (aay ((a2+a1)-a0))<|((abg fu a3 (a2-a0) ((a2+a1)-a0) a0).bind fun(a6:List PQ)=>(gd (aay (a1-a0))<|(a4 a6 a0 (a1-a0)))))))))
def ajg(fu:Nat)(a3:Int):Nat→(List PQ)→Int→Int→Option ((List PQ)×Int):=fun k_ a0 a1 a2=>loopF (fun(g:((List PQ)×Int×Int)→Option ((List PQ)×Int)) v=>ait fu a3 (fun a0 a1 a2=>g (a0,a1,a2)) v.1 v.2.1 v.2.2) k_ (a0,a1,a2)
def aem(fu:Nat)(a4:List PQ)(a2:Int)(a0:Int)(a3:Int):Option (List PQ):=
 (gd (aay (a0-a2))<|(gd (aay (a3-a0))<|(((ajg fu a0 fu a4 (a0-a2) (a3-a0))).bind fun(a1:((List PQ)×Int))=>(gd (aay (a0-a1.2))<|((abg fu a1.1 (a0-a1.2) a0 a1.2).bind fun(a5:List PQ)=>some a5)))))
def ahs(fu:Nat)(a2:List PQ)(a3:Int)(a4:Int→Int→Option Int)(a0:Int)(a1:Int):Option Int:=
 (if a0<a1 then(gd (aay (a0+a1))<|(gd (0≤(zab .i64 ((zab .u64 (a0+a1))/2))∧(zab .i64 ((zab .u64 (a0+a1))/2))<(a2.length:Int))<|(gd (0≤(zab .i64 ((zab .u64 (a0+a1))/2))∧(zab .i64 ((zab .u64 (a0+a1))/2))<(a2.length:Int))<|(gd (0≤a3∧a3<(a2.length:Int))<|(gd (0≤a3∧a3<(a2.length:Int))<|((akt fu ((el a2 (zab .i64 ((zab .u64 (a0+a1))/2))).1,(el a2 (zab .i64 ((zab .u64 (a0+a1))/2))).2.1,((el a2 (zab .i64 ((zab .u64 (a0+a1))/2))).2.2)) ((el a2 a3).1,(el a2 a3).2.1,((el a2 a3).2.2))).bind fun(a5:Int)=>(if a5<(0:Int)then(gd (aay ((zab .i64 ((zab .u64 (a0+a1))/2))+(1:Int)))<|(a4 ((zab .i64 ((zab .u64 (a0+a1))/2))+(1:Int)) a1))else(a4 a0 (zab .i64 ((zab .u64 (a0+a1))/2))))))))))else some a0)
def aim(fu:Nat)(a2:List PQ)(a3:Int):Nat→Int→Int→Option Int:=fun k_ a0 a1=>loopF (fun(g:(Int×Int)→Option Int) v=>ahs fu a2 a3 (fun a0 a1=>g (a0,a1)) v.1 v.2) k_ (a0,a1)
def ahr(fu:Nat)(a2:Int)(a3:(List PQ)→Int→Option (List PQ))(a1:List PQ)(a0:Int):Option (List PQ):=
 (gd (aay (a2-(1:Int)))<|(if a0<(a2-(1:Int))then(gd (aay (a0+(1:Int)))<|(gd (aay (a0+(1:Int)))<|(gd (0≤(a0+(1:Int))∧(a0+(1:Int))<(a1.length:Int))<|(gd (0≤(a0+(1:Int))∧(a0+(1:Int))<(a1.length:Int))<|(gd (0≤a0∧a0<(a1.length:Int))<|(gd (0≤a0∧a0<(a1.length:Int))<|(gd (0≤a0∧a0<(a1.length:Int))<|(gd (0≤a0∧a0<(a1.length:Int))<|(gd (0≤(a0+(1:Int))∧(a0+(1:Int))<((zaE a1 (zaj a0) ((el a1 (a0+(1:Int))).1,(el a1 (a0+(1:Int))).2.1,((el a1 (a0+(1:Int))).2.2))).length:Int))<|(gd (0≤(a0+(1:Int))∧(a0+(1:Int))<((zaE a1 (zaj a0) ((el a1 (a0+(1:Int))).1,(el a1 (a0+(1:Int))).2.1,((el a1 (a0+(1:Int))).2.2))).length:Int))<|(gd (aay (a0+(1:Int)))<|(a3 (zaE (zaE a1 (zaj a0) ((el a1 (a0+(1:Int))).1,(el a1 (a0+(1:Int))).2.1,((el a1 (a0+(1:Int))).2.2))) (zaj (a0+(1:Int))) ((el a1 a0).1,(el a1 a0).2.1,((el a1 a0).2.2))) (a0+(1:Int))))))))))))))else some a1))
def ail(fu:Nat)(a2:Int):Nat→(List PQ)→Int→Option (List PQ):=fun k_ a0 a1=>loopF (fun(g:((List PQ)×Int)→Option (List PQ)) v=>ahr fu a2 (fun a0 a1=>g (a0,a1)) v.1 v.2) k_ (a0,a1)
def ahq(fu:Nat)(a2:List PQ)(a3:Int)(a4:Int→Int→Option Int)(a0:Int)(a1:Int):Option Int:=
 (if a0<a1 then(gd (aay (a0+a1))<|(gd (0≤a3∧a3<(a2.length:Int))<|(gd (0≤a3∧a3<(a2.length:Int))<|(gd (0≤(zab .i64 ((zab .u64 (a0+a1))/2))∧(zab .i64 ((zab .u64 (a0+a1))/2))<(a2.length:Int))<|(gd (0≤(zab .i64 ((zab .u64 (a0+a1))/2))∧(zab .i64 ((zab .u64 (a0+a1))/2))<(a2.length:Int))<|((akt fu ((el a2 a3).1,(el a2 a3).2.1,((el a2 a3).2.2)) ((el a2 (zab .i64 ((zab .u64 (a0+a1))/2))).1,(el a2 (zab .i64 ((zab .u64 (a0+a1))/2))).2.1,((el a2 (zab .i64 ((zab .u64 (a0+a1))/2))).2.2))).bind fun(a5:Int)=>(if a5<(0:Int)then(a4 a0 (zab .i64 ((zab .u64 (a0+a1))/2)))else(gd (aay ((zab .i64 ((zab .u64 (a0+a1))/2))+(1:Int)))<|(a4 ((zab .i64 ((zab .u64 (a0+a1))/2))+(1:Int)) a1)))))))))else some a0)
def aik(fu:Nat)(a2:List PQ)(a3:Int):Nat→Int→Int→Option Int:=fun k_ a0 a1=>loopF (fun(g:(Int×Int)→Option Int) v=>ahq fu a2 a3 (fun a0 a1=>g (a0,a1)) v.1 v.2) k_ (a0,a1)
def ahp(fu:Nat)(a2:Int)(a3:(List PQ)→Int→Option (List PQ))(a1:List PQ)(a0:Int):Option (List PQ):=
 (if a2<a0 then(gd (aay (a0-(1:Int)))<|(gd (aay (a0-(1:Int)))<|(gd (0≤(a0-(1:Int))∧(a0-(1:Int))<(a1.length:Int))<|(gd (0≤(a0-(1:Int))∧(a0-(1:Int))<(a1.length:Int))<|(gd (0≤a0∧a0<(a1.length:Int))<|(gd (0≤a0∧a0<(a1.length:Int))<|(gd (0≤a0∧a0<(a1.length:Int))<|(gd (0≤a0∧a0<(a1.length:Int))<|(gd (0≤(a0-(1:Int))∧(a0-(1:Int))<((zaE a1 (zaj a0) ((el a1 (a0-(1:Int))).1,(el a1 (a0-(1:Int))).2.1,((el a1 (a0-(1:Int))).2.2))).length:Int))<|(gd (0≤(a0-(1:Int))∧(a0-(1:Int))<((zaE a1 (zaj a0) ((el a1 (a0-(1:Int))).1,(el a1 (a0-(1:Int))).2.1,((el a1 (a0-(1:Int))).2.2))).length:Int))<|(gd (aay (a0-(1:Int)))<|(a3 (zaE (zaE a1 (zaj a0) ((el a1 (a0-(1:Int))).1,(el a1 (a0-(1:Int))).2.1,((el a1 (a0-(1:Int))).2.2))) (zaj (a0-(1:Int))) ((el a1 a0).1,(el a1 a0).2.1,((el a1 a0).2.2))) (a0-(1:Int))))))))))))))else some a1)
def aij(fu:Nat)(a2:Int):Nat→(List PQ)→Int→Option (List PQ):=fun k_ a0 a1=>loopF (fun(g:((List PQ)×Int)→Option (List PQ)) v=>ahp fu a2 (fun a0 a1=>g (a0,a1)) v.1 v.2) k_ (a0,a1)
def aho(fu:Nat)(a2:List PQ)(a3:Int)(a4:Int)(a5:Int)(a6:Int→Int→Option Int)(a0:Int)(a1:Int):Option Int:=
 (if a0<a1 then(gd (aay (a0+a1))<|(gd (aay ((((zab .i64 ((zab .u64 (a3+a5))/2))+a4)-(1:Int))-(zab .i64 ((zab .u64 (a0+a1))/2))))<|(gd (0≤((((zab .i64 ((zab .u64 (a3+a5))/2))+a4)-(1:Int))-(zab .i64 ((zab .u64 (a0+a1))/2)))∧((((zab .i64 ((zab .u64 (a3+a5))/2))+a4)-(1:Int))-(zab .i64 ((zab .u64 (a0+a1))/2)))<(a2.length:Int))<|(gd (0≤((((zab .i64 ((zab .u64 (a3+a5))/2))+a4)-(1:Int))-(zab .i64 ((zab .u64 (a0+a1))/2)))∧((((zab .i64 ((zab .u64 (a3+a5))/2))+a4)-(1:Int))-(zab .i64 ((zab .u64 (a0+a1))/2)))<(a2.length:Int))<|(gd (0≤(zab .i64 ((zab .u64 (a0+a1))/2))∧(zab .i64 ((zab .u64 (a0+a1))/2))<(a2.length:Int))<|(gd (0≤(zab .i64 ((zab .u64 (a0+a1))/2))∧(zab .i64 ((zab .u64 (a0+a1))/2))<(a2.length:Int))<|((akt fu ((el a2 ((((zab .i64 ((zab .u64 (a3+a5))/2))+a4)-(1:Int))-(zab .i64 ((zab .u64 (a0+a1))/2)))).1,(el a2 ((((zab .i64 ((zab .u64 (a3+a5))/2))+a4)-(1:Int))-(zab .i64 ((zab .u64 (a0+a1))/2)))).2.1,((el a2 ((((zab .i64 ((zab .u64 (a3+a5))/2))+a4)-(1:Int))-(zab .i64 ((zab .u64 (a0+a1))/2)))).2.2)) ((el a2 (zab .i64 ((zab .u64 (a0+a1))/2))).1,(el a2 (zab .i64 ((zab .u64 (a0+a1))/2))).2.1,((el a2 (zab .i64 ((zab .u64 (a0+a1))/2))).2.2))).bind fun(a7:Int)=>(if a7<(0:Int)then(a6 a0 (zab .i64 ((zab .u64 (a0+a1))/2)))else(gd (aay ((zab .i64 ((zab .u64 (a0+a1))/2))+(1:Int)))<|(a6 ((zab .i64 ((zab .u64 (a0+a1))/2))+(1:Int)) a1))))))))))else some a0)
def aii(fu:Nat)(a2:List PQ)(a3:Int)(a4:Int)(a5:Int):Nat→Int→Int→Option Int:=fun k_ a0 a1=>loopF (fun(g:(Int×Int)→Option Int) v=>aho fu a2 a3 a4 a5 (fun a0 a1=>g (a0,a1)) v.1 v.2) k_ (a0,a1)
def aan:Nat→(List PQ)→Int→Int→Int→Option (List PQ)
 |0,_,_,_,_=>none
 |fu+1,a4,a0,a2,a1=>(((gd (aay (a2-a0))<|(if(a2-a0)=(1:Int)then(((aim fu a4 a0 fu a2 a1)).bind fun(a8:Int)=>(((ail fu a8 fu a4 a0)).bind fun(a9:List PQ)=>some (.inr a9)))else some (.inl ())))).bind fun(b0:(Unit⊕(List PQ)))=>zaJ (fun(c0:Unit)=>(((gd (aay (a1-a2))<|(if(a1-a2)=(1:Int)then(((aik fu a4 a2 fu a0 a2)).bind fun(b1:Int)=>(((aij fu b1 fu a4 a2)).bind fun(b2:List PQ)=>some (.inr b2)))else some (.inl ())))).bind fun(b3:(Unit⊕(List PQ)))=>zaJ (fun(c1:Unit)=>(gd (aay (a0+a1))<|(gd (aay ((zab .i64 ((zab .u64 (a0+a1))/2))+a2))<|(((if(zab .i64 ((zab .u64 (a0+a1))/2))<a2 then(gd (aay (((zab .i64 ((zab .u64 (a0+a1))/2))+a2)-a1))<|some (((zab .i64 ((zab .u64 (a0+a1))/2))+a2)-a1,zab .i64 ((zab .u64 (a0+a1))/2)))else some (a0,a2))).bind fun(a5:(Int×Int))=>(gd (aay (((zab .i64 ((zab .u64 (a0+a1))/2))+a2)-(1:Int)))<|(((aii fu a4 a0 a2 a1 fu a5.1 a5.2)).bind fun(a3:Int)=>(gd (aay (((zab .i64 ((zab .u64 (a0+a1))/2))+a2)-a3))<|(((((if a3<a2 then some (decide (a2<(((zab .i64 ((zab .u64 (a0+a1))/2))+a2)-a3)))else some false)).bind fun(b4:Bool)=>(bif b4 then((aem fu a4 a3 a2 (((zab .i64 ((zab .u64 (a0+a1))/2))+a2)-a3)).bind fun(b5:List PQ)=>some b5)else some a4))).bind fun(a6:List PQ)=>(((((if a0<a3 then some (decide (a3<(zab .i64 ((zab .u64 (a0+a1))/2))))else some false)).bind fun(b6:Bool)=>(bif b6 then((aan fu a6 a0 a3 (zab .i64 ((zab .u64 (a0+a1))/2))).bind fun(b7:List PQ)=>some b7)else some a6))).bind fun(a7:List PQ)=>(((if(zab .i64 ((zab .u64 (a0+a1))/2))<(((zab .i64 ((zab .u64 (a0+a1))/2))+a2)-a3)then some (decide ((((zab .i64 ((zab .u64 (a0+a1))/2))+a2)-a3)<a1))else some false)).bind fun(b8:Bool)=>(bif b8 then((aan fu a7 (zab .i64 ((zab .u64 (a0+a1))/2)) (((zab .i64 ((zab .u64 (a0+a1))/2))+a2)-a3) a1).bind fun(b9:List PQ)=>some b9)else some a7))))))))))) (fun q=>some q) b3)) (fun q=>some q) b0)
open Go.Lib renaming indexAny → zbe, itoa → zaZ
def air(fu:Nat)(a3:Int)(a4:(List PQ)→Int→Int→Option ((List PQ)×Int))(a1:List PQ)(a2:Int)(a0:Int):Option ((List PQ)×Int):=
 (if a0≤a3 then((abm fu a1 a2 a0).bind fun(a5:List PQ)=>(gd (aay (a0+(20:Int)))<|(a4 a5 a0 (a0+(20:Int)))))else some (a1,a2))
def ajf(fu:Nat)(a3:Int):Nat→(List PQ)→Int→Int→Option ((List PQ)×Int):=fun k_ a0 a1 a2=>loopF (fun(g:((List PQ)×Int×Int)→Option ((List PQ)×Int)) v=>air fu a3 (fun a0 a1 a2=>g (a0,a1,a2)) v.1 v.2.1 v.2.2) k_ (a0,a1,a2)
def aip(fu:Nat)(a4:Int)(a0:Int)(a5:(List PQ)→Int→Int→Option ((List PQ)×Int))(a3:List PQ)(a2:Int)(a1:Int):Option ((List PQ)×Int):=
 (if a1≤a4 then(gd (aay (a2+a0))<|((aan fu a3 a2 (a2+a0) a1).bind fun(a6:List PQ)=>(gd (aay ((2:Int)*a0))<|(gd (aay (a1+((2:Int)*a0)))<|(a5 a6 a1 (a1+((2:Int)*a0)))))))else some (a3,a2))
def ajd(fu:Nat)(a3:Int)(a4:Int):Nat→(List PQ)→Int→Int→Option ((List PQ)×Int):=fun k_ a0 a1 a2=>loopF (fun(g:((List PQ)×Int×Int)→Option ((List PQ)×Int)) v=>aip fu a3 a4 (fun a0 a1 a2=>g (a0,a1,a2)) v.1 v.2.1 v.2.2) k_ (a0,a1,a2)
def aiq(fu:Nat)(a2:Int)(a3:(List PQ)→Int→Option (List PQ))(a4:List PQ)(a0:Int):Option (List PQ):=
 (if a0<a2 then(gd (aay ((2:Int)*a0))<|(((ajd fu a2 a0 fu a4 (0:Int) ((2:Int)*a0))).bind fun(a1:((List PQ)×Int))=>(gd (aay (a1.2+a0))<|(if(a1.2+a0)<a2 then((aan fu a1.1 a1.2 (a1.2+a0) a2).bind fun(a5:List PQ)=>(gd (aay (a0*(2:Int)))<|(a3 a5 (a0*(2:Int)))))else(gd (aay (a0*(2:Int)))<|(a3 a1.1 (a0*(2:Int))))))))else some a4)
def aje(fu:Nat)(a2:Int):Nat→(List PQ)→Int→Option (List PQ):=fun k_ a0 a1=>loopF (fun(g:((List PQ)×Int)→Option (List PQ)) v=>aiq fu a2 (fun a0 a1=>g (a0,a1)) v.1 v.2) k_ (a0,a1)
def ael(fu:Nat)(a2:List PQ)(a0:Int):Option (List PQ):=
 (((ajf fu a0 fu a2 (0:Int) (20:Int))).bind fun(a1:((List PQ)×Int))=>((abm fu a1.1 a1.2 a0).bind fun(a3:List PQ)=>(aje fu a0 fu a3 (20:Int))))
def acb(fu:Nat)(a0:List PQ):Option (List PQ):=
 ((ael fu a0 (a0.length:Int)).bind fun(y1:List PQ)=>some y1)
def abf(fu:Nat)(a0:List PQ):Option (List PQ):=
 ((aej fu a0).bind fun(y1:List PQ)=>((acb fu y1).bind fun(y9:List PQ)=>some y9))
def amn(fu:Nat)(a0:List PQ):Option (List PQ):=
 ((aml fu a0).bind fun(y1:List PQ)=>((abf fu a0).bind fun(y7:List PQ)=>some y7))
def L_header_PrintVia_lp0B(fu:Nat)(a1:(Str×Str×Int×Str×(List PQ)))(a3:(List PQ)→Int→Option (List PQ))(a2:List PQ)(a0:Int):Option (List PQ):=
 (if a0<(a1.2.2.2.2.length:Int)then(gd (0≤a0∧a0<(a1.2.2.2.2.length:Int))<|(gd (0≤a0∧a0<(a1.2.2.2.2.length:Int))<|(if((el a1.2.2.2.2 a0).1)=([98,114,97,110,99,104]:Str)then(gd (aay (a0+(1:Int)))<|(a3 a2 (a0+(1:Int))))else(gd ((a2.length+([((el a1.2.2.2.2 a0).1,(el a1.2.2.2.2 a0).2.1,((el a1.2.2.2.2 a0).2.2))]:List PQ).length)*40≤140737488355328)<|(gd (aay (a0+(1:Int)))<|(a3 (a2++([((el a1.2.2.2.2 a0).1,(el a1.2.2.2.2 a0).2.1,((el a1.2.2.2.2 a0).2.2))]:List PQ)) (a0+(1:Int))))))))else some a2)
def L_header_PrintVia_lp0(fu:Nat)(a2:(Str×Str×Int×Str×(List PQ))):Nat→(List PQ)→Int→Option (List PQ):=fun k_ a0 a1=>loopF (fun(g:((List PQ)×Int)→Option (List PQ)) v=>L_header_PrintVia_lp0B fu a2 (fun a0 a1=>g (a0,a1)) v.1 v.2) k_ (a0,a1)
def atm(fu:Nat)(a0:(Str×Str×Int×Str×(List PQ))):Option (Str×UInt8):=
 ((aeq fu a0.2.1).bind fun(y4:(Str×Bool))=>(((bif (!y4.2)then some true else((aft fu a0.1).bind fun(a5:Bool)=>(bif (!a5)then some true else(if a0.2.2.1<(0:Int)then some true else some (decide ((65535:Int)<a0.2.2.1))))))).bind fun(a6:Bool)=>(bif a6 then some (([]:Str),(2:UInt8))else(((L_header_PrintVia_lp0 fu a0 fu ([]:List PQ) (0:Int))).bind fun(a2:List PQ)=>(((if a0.2.2.2.1=([]:Str)then some a2 else(gd ((a2.length+([(([98,114,97,110,99,104]:Str),a0.2.2.2.1,true)]:List PQ).length)*40≤140737488355328)<|some (a2++([(([98,114,97,110,99,104]:Str),a0.2.2.2.1,true)]:List PQ))))).bind fun(a7:List PQ)=>((amn fu a7).bind fun(a8:List PQ)=>((aeh fu a8).bind fun(a3:(Str×UInt8))=>(if a3.2=(0:UInt8)then(((if a0.2.2.1=(0:Int)then some y4.1 else(gd (aay a0.2.2.1)<|(gd (([58]:Str).length+(zaZ a0.2.2.1).length≤9223372036854775807)<|(gd (y4.1.length+(([58]:Str)++(zaZ a0.2.2.1)).length≤9223372036854775807)<|some (y4.1++(([58]:Str)++(zaZ a0.2.2.1)))))))).bind fun(a4:Str)=>((aco fu a0.1).bind fun(a1:Str)=>(gd (([83,73,80,47,50,46,48,47]:Str).length+a1.length≤9223372036854775807)<|(gd ((([83,73,80,47,50,46,48,47]:Str)++a1).length+([32]:Str).length≤9223372036854775807)<|(gd (((([83,73,80,47,50,46,48,47]:Str)++a1)++([32]:Str)).length+a4.length≤9223372036854775807)<|(gd ((((([83,73,80,47,50,46,48,47]:Str)++a1)++([32]:Str))++a4).length+a3.1.length≤9223372036854775807)<|some ((((([83,73,80,47,50,46,48,47]:Str)++a1)++([32]:Str))++a4)++a3.1,(0:UInt8))))))))else some (([]:Str),(2:UInt8))))))))))
def apu(fu:Nat)(s_0:Str):Option (Int×Str×UInt8):=
 (gd (s_0.length≤1000000000∧([32,9]:Str).length≤1000∧([32,9]:Str).all (fun b=>decide (b.toNat<128))=true)<|(((if(zbe s_0 ([32,9]:Str))<(0:Int)then some (s_0.length:Int)else some (zbe s_0 ([32,9]:Str)))).bind fun(v9:Int)=>(gd (0≤v9∧v9≤(s_0.length:Int))<|((agz fu (List.take (zaj v9) s_0)).bind fun(a1:(Int×UInt8))=>((ajv fu s_0 v9).bind fun(a0:Int)=>(gd (0≤a0∧a0≤(s_0.length:Int))<|some (a1.1,zax (zaj a0) s_0,a1.2)))))))
def aqy(fu:Nat)(a0:Str):Option (Int×Str×UInt8):=
 ((aex fu a0).bind fun(y1:Str)=>((apu fu y1).bind fun(y6:(Int×Str×UInt8))=>(if y6.2.2=(0:UInt8)then((aft fu y6.2.1).bind fun(a1:Bool)=>(bif (!a1)then some ((0:Int),([]:Str),(5:UInt8))else some (y6.1,y6.2.1,(0:UInt8))))else some ((0:Int),([]:Str),y6.2.2))))
def L_header_RAck(fu:Nat)(a1:Str):Option (Int×Int×Str×UInt8):=
 ((aex fu a1).bind fun(y1:Str)=>((apu fu y1).bind fun(y6:(Int×Str×UInt8))=>(if y6.2.2=(0:UInt8)then((aqy fu y6.2.1).bind fun(a0:(Int×Str×UInt8))=>(if a0.2.2=(0:UInt8)then some (y6.1,a0.1,a0.2.1,(0:UInt8))else some ((0:Int),(0:Int),([]:Str),a0.2.2)))else some ((0:Int),(0:Int),([]:Str),y6.2.2))))
end Go.Wk
