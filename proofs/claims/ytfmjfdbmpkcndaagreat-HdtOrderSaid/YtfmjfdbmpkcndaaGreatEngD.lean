import Derived.Test.YtfmjfdbmpkcndaaGreatEngC
set_option linter.unusedVariables false
set_option linter.unusedSimpArgs false
set_option linter.unusedSectionVars false
namespace Go.Tm
open MemLike Eng
set_option linter.unusedSectionVars false
set_option linter.unusedVariables false
theorem zfr {s:Int} {P:Int→Prop} {eu ev:Int→Int} {x y:Int}:Conn (fun q=>q=s∨P q) eu ev x y↔Conn P eu ev x y∨(Conn P eu ev x (eu s)∧Conn P eu ev (ev s) y)∨(Conn P eu ev x (ev s)∧Conn P eu ev (eu s) y):=by
 constructor
 ·intro h
  induction h with
  | refl=>exact .inl (.refl _)
  | @step w z hw q hq he ih =>
   rcases hq with rfl | hq
   ·rcases he with ⟨rfl,rfl⟩ | ⟨rfl,rfl⟩
    ·rcases ih with h | ⟨h1,h2⟩ | ⟨h1,h2⟩
     ·exact .inr (.inl ⟨h,.refl _⟩)
     ·exact .inr (.inl ⟨h1,.refl _⟩)
     ·exact .inl h1
    ·rcases ih with h | ⟨h1,h2⟩ | ⟨h1,h2⟩
     ·exact .inr (.inr ⟨h,.refl _⟩)
     ·exact .inl h1
     ·exact .inr (.inr ⟨h1,.refl _⟩)
   ·have st:∀ {a},Conn P eu ev a w→Conn P eu ev a z:=fun c=>.step c q hq he
    rcases ih with h | ⟨h1,h2⟩ | ⟨h1,h2⟩
    ·exact .inl (st h)
    ·exact .inr (.inl ⟨h1,st h2⟩)
    ·exact .inr (.inr ⟨h1,st h2⟩)
 ·have up:∀ {a b},Conn P eu ev a b→Conn (fun q=>q=s∨P q) eu ev a b:=fun c=>c.mono fun q hq=>.inr hq
  have e:Conn (fun q=>q=s∨P q) eu ev (eu s) (ev s):=.step (.refl _) s (.inl rfl) (.inl ⟨rfl,rfl⟩)
  rintro (h | ⟨h1,h2⟩ | ⟨h1,h2⟩)
  ·exact up h
  ·exact ((up h1).trans e).trans (up h2)
  ·exact ((up h1).trans e.symm).trans (up h2)
theorem zcy {α:Type} {p q r:α→Bool}:∀ {l:List α},(∀ x∈l,r x=(p x || q x))→(∀ x∈l,p x=true→q x=false)→l.countP r=l.countP p+l.countP q
 | [],_,_=>rfl
 | x :: l,h,hd=>by
  have ih:=zcy (l:=l) (fun y hy=>h y (by simp [hy])) (fun y hy=>hd y (by simp [hy]))
  have h1:=h x (by simp); have h2:=hd x (by simp)
  simp only [List.countP_cons,ih,h1]
  cases hp:p x<;>cases hq:q x<;>simp_all<;>omega
theorem zdF {α:Type} {p:α→Bool}:∀ {l:List α},(∀ x∈l,p x=false)→l.countP p=0
 | [],_=>rfl
 | x :: l,h=>by rw [List.countP_cons,zdF fun y hy=>h y (by simp [hy]),h x (by simp)]; rfl
theorem zb8 {α:Type} {p q:α→Bool} {l:List α} (h:∀ x∈l,p x=q x):l.countP p=l.countP q:=List.countP_congr fun x hx=>by rw [h x hx]
theorem zkJ {a b c:Prop} [Decidable a] [Decidable b] [Decidable c] (h:a↔b∨c):decide a=(decide b || decide c):=by
 by_cases hb:b<;>by_cases hc:c<;>simp [h,hb,hc]
theorem zfJ {a b:Prop} [Decidable a] [Decidable b] (h:a↔b):decide a=decide b:=by
 by_cases hb:b<;>simp [h,hb]
def NoCy (eu ev:Int→Int):List Int→Prop
 | []=>True
 | s :: es=>¬Conn (·∈es) eu ev (eu s) (ev s)∧NoCy eu ev es
section
open Classical
noncomputable def nvL (V:Nat) (eu ev:Int→Int) (es:List Int) (u:Int):Nat:=(List.range V).countP fun w:Nat=>decide (Conn (·∈es) eu ev u w)
noncomputable def neL (eu ev:Int→Int) (es:List Int) (u:Int):Nat:=es.countP fun q=>decide (Conn (·∈es) eu ev u (eu q))
theorem zom {eu ev:Int→Int} {x y:Int} (h:Conn (·∈([]:List Int)) eu ev x y):x=y:=by
 induction h with
 | refl=>rfl
 | step _ s hs=>cases hs
theorem zin {s:Int} {es:List Int} {eu ev:Int→Int} {x y:Int}:Conn (·∈s :: es) eu ev x y↔Conn (·∈es) eu ev x y∨(Conn (·∈es) eu ev x (eu s)∧Conn (·∈es) eu ev (ev s) y)∨(Conn (·∈es) eu ev x (ev s)∧Conn (·∈es) eu ev (eu s) y):=by
 rw [←zfr]
 exact ⟨fun c=>c.mono fun q hq=>List.mem_cons.1 hq,fun c=>c.mono fun q hq=>List.mem_cons.2 hq⟩
theorem zrv {V:Nat} {eu ev:Int→Int}:∀ (es:List Int),NoCy eu ev es→(∀ s∈es,(0≤eu s∧eu s<V)∧0≤ev s∧ev s<V)→∀ u:Int,0≤u→u<V→nvL V eu ev es u=1+neL eu ev es u
 | [],_,_,u,h0,h1=>by
  unfold nvL neL
  have:=zcx (p:=fun _:Nat=>false) (q:=fun w:Nat=>decide (Conn (·∈([]:List Int)) eu ev u w)) (r:=List.range V) (s:=u.toNat) (fun x hx hne=>decide_eq_false fun c=>hne (by have:=zom c; omega)) (List.mem_range.2 (by omega)) rfl (decide_eq_true (by rw [show ((u.toNat:Nat):Int)=u by omega]; exact .refl _)) List.nodup_range
  rw [this,zdF fun _ _=>rfl]; rfl
 | s :: es,⟨hs,hc⟩,hr,u,h0,h1=>by
  have ih:=zrv es hc (fun q hq=>hr q (by simp [hq]))
  obtain ⟨ra,rb⟩:=hr s (by simp)
  have ab:∀ {x},Conn (·∈es) eu ev x (eu s)→¬Conn (·∈es) eu ev x (ev s):=fun c c'=>hs (c.symm.trans c')
  unfold nvL neL
  rw [List.countP_cons]
  by_cases ua:Conn (·∈es) eu ev u (eu s)
  ·have ub:=ab ua
   have k:∀ y,Conn (·∈s :: es) eu ev u y↔Conn (·∈es) eu ev u y∨Conn (·∈es) eu ev (ev s) y:=fun y=>by
    rw [zin]
    exact ⟨fun h=>by rcases h with h | h | h; exact .inl h; exact .inr h.2; exact absurd h.1 ub,fun h=>h.elim .inl fun h=>.inr (.inl ⟨ua,h⟩)⟩
   have d:∀ y,Conn (·∈es) eu ev u y→¬Conn (·∈es) eu ev (ev s) y:=fun y c c'=>ub (c.trans c'.symm)
   rw [zcy (p:=fun w:Nat=>decide (Conn (·∈es) eu ev u w)) (q:=fun w:Nat=>decide (Conn (·∈es) eu ev (ev s) w)) (fun x _=>zkJ (k _)) (fun x _ h=>decide_eq_false (d _ (of_decide_eq_true h))),
    zcy (p:=fun q=>decide (Conn (·∈es) eu ev u (eu q))) (q:=fun q=>decide (Conn (·∈es) eu ev (ev s) (eu q))) (l:=es) (fun x _=>zkJ (k _)) (fun x _ h=>decide_eq_false (d _ (of_decide_eq_true h))),if_pos (decide_eq_true ((k _).2 (.inl ua)))]
   have i1:=ih u h0 h1; have i2:=ih (ev s) rb.1 rb.2
   unfold nvL neL at i1 i2
   omega
  ·by_cases ub:Conn (·∈es) eu ev u (ev s)
   ·have k:∀ y,Conn (·∈s :: es) eu ev u y↔Conn (·∈es) eu ev u y∨Conn (·∈es) eu ev (eu s) y:=fun y=>by
     rw [zin]
     exact ⟨fun h=>by rcases h with h | h | h; exact .inl h; exact absurd h.1 ua; exact .inr h.2,fun h=>h.elim .inl fun h=>.inr (.inr ⟨ub,h⟩)⟩
    have d:∀ y,Conn (·∈es) eu ev u y→¬Conn (·∈es) eu ev (eu s) y:=fun y c c'=>ua (c.trans c'.symm)
    rw [zcy (p:=fun w:Nat=>decide (Conn (·∈es) eu ev u w)) (q:=fun w:Nat=>decide (Conn (·∈es) eu ev (eu s) w)) (fun x _=>zkJ (k _)) (fun x _ h=>decide_eq_false (d _ (of_decide_eq_true h))),
     zcy (p:=fun q=>decide (Conn (·∈es) eu ev u (eu q))) (q:=fun q=>decide (Conn (·∈es) eu ev (eu s) (eu q))) (l:=es) (fun x _=>zkJ (k _)) (fun x _ h=>decide_eq_false (d _ (of_decide_eq_true h))),if_pos (decide_eq_true ((k _).2 (.inr (.refl _))))]
    have i1:=ih u h0 h1; have i2:=ih (eu s) ra.1 ra.2
    unfold nvL neL at i1 i2
    omega
   ·have k:∀ y,Conn (·∈s :: es) eu ev u y↔Conn (·∈es) eu ev u y:=fun y=>by
     rw [zin]
     exact ⟨fun h=>by rcases h with h | h | h; exact h; exact absurd h.1 ua; exact absurd h.1 ub,.inl⟩
    rw [zb8 (q:=fun w:Nat=>decide (Conn (·∈es) eu ev u w)) (fun x _=>zfJ (k _)),zb8 (q:=fun q=>decide (Conn (·∈es) eu ev u (eu q))) (l:=es) (fun x _=>zfJ (k _)),if_neg (by rw [decide_eq_true_iff,k]; exact ua)]
    have i1:=ih u h0 h1
    unfold nvL neL at i1
    omega
theorem zme {P:Int→Prop} {eu ev:Int→Int} (hb:∀ s,P s→¬Conn (fun q=>P q∧q≠s) eu ev (eu s) (ev s)):∀ (es:List Int),es.Nodup→(∀ s∈es,P s)→NoCy eu ev es
 | [],_,_=>trivial
 | s :: es,hn,hp=>by
  obtain ⟨n1,n2⟩:=List.nodup_cons.1 hn
  exact ⟨fun c=>hb s (hp s (by simp)) (c.mono fun q hq=>⟨hp q (by simp [hq]),fun e=>n1 (e▸hq)⟩),zme hb es n2 fun q hq=>hp q (by simp [hq])⟩
noncomputable def ne (l:Lay) (g:G) (i u:Int):Nat:=(List.range l.S).countP fun q:Nat=>decide (Pg g i q∧Jn g i u (g.u q))
section
variable {l:Lay} (hl:l.Ok) {σ:M} {mk pr:Int→Int} {F:Int→T} {g:G} {L:Int→Int→List Int} {d:Array EdR}
include hl
theorem nv_ne (hI:InvR l pr σ F mk g L) {i:Int} (hi:0≤i∧i<l.lev) {u:Int} (hu:0≤u∧u<l.V):nv l g i u=1+ne l g i u:=by
 have hT:=hI.tours i hi
 let es:List Int:=((List.range l.S).filter fun q:Nat=>decide (Pg g i q)).map fun q:Nat=>(q:Int)
 have hes:∀ q,q∈es↔Pg g i q:=fun q=>by
  constructor
  ·intro h
   obtain ⟨m,hm,rfl⟩:=List.mem_map.1 h
   exact of_decide_eq_true (List.mem_filter.1 hm).2
  ·intro h
   have hr:=(hI.edges.rng q h.1).1
   refine List.mem_map.2 ⟨q.toNat,List.mem_filter.2 ⟨List.mem_range.2 (by omega),?_⟩,by omega⟩
   rw [show ((q.toNat:Nat):Int)=q by omega]; exact decide_eq_true h
 have hnd:es.Nodup:=List.pairwise_map.2 (((List.nodup_range (n:=l.S)).filter _).imp fun h e=>h (by omega))
 have key:=zrv (V:=l.V) es (zme (P:=Pg g i) (fun s hs=>hT.bridge hl hi hI.lm.forest hs) es hnd fun s hs=>(hes s).1 hs) (fun s hs=>by have:=(hI.edges.rng s ((hes s).1 hs).1).2.1; omega) u hu.1 hu.2
 have hc:∀ {x y},Conn (·∈es) g.u g.v x y↔Jn g i x y:=Conn.iff hl hes
 unfold nvL neL at key
 unfold nv ne
 rw [zb8 (q:=fun w:Nat=>decide (Conn (·∈es) g.u g.v u w)) (fun x _=>zfJ hc.symm),key]
 congr 1
 show (List.map _ _).countP _=_
 rw [List.countP_map,List.countP_filter]
 exact zb8 fun q _=>by
  simp only [Function.comp,hc]
  by_cases h1:Pg g i q<;>by_cases h2:Jn g i u (g.u q)<;>simp [h1,h2]
end
end
section
variable {l:Lay} (hl:l.Ok) {σ:M} {mk pr:Int→Int} {F:Int→T} {g:G} {L:Int→Int→List Int} {d:Array EdR}
def vsL (l:Lay) (r:List Int):List Int:=(r.filter fun x=>!(l.node x).1.arc).map fun x=>(l.node x).1.vertex
def acN (l:Lay) (r:List Int):Nat:=r.countP fun x=>(l.node x).1.arc
theorem zhy (r:List Int):((vsL l r).length:Int)=vts l r∧acN l r+(vsL l r).length=r.length:=by
 induction r with
 | nil=>exact ⟨rfl,rfl⟩
 | cons x r ih =>
  unfold vsL acN at *
  rw [vts,List.filter_cons,List.countP_cons]
  cases h:(l.node x).1.arc<;>simp at ih ⊢<;>omega
theorem zj5 {r:List Int} {k:Nat} (h:k<r.length):vsL l (r.take (k+1))=vsL l (r.take k)++(if (l.node r[k]!).1.arc then [] else [(l.node r[k]!).1.vertex]):=by
 rw [List.take_succ_eq_append_getElem h,getElem!_pos _ k h]
 unfold vsL
 rw [List.filter_append,List.map_append]
 cases hh:(l.node r[k]).1.arc<;>simp [hh]
theorem zow {r:List Int} {k:Nat} (h:k<r.length):acN l (r.take (k+1))=acN l (r.take k)+(if (l.node r[k]!).1.arc then 1 else 0):=by
 rw [List.take_succ_eq_append_getElem h,getElem!_pos _ k h]
 unfold acN
 rw [List.countP_append]
 cases hh:(l.node r[k]).1.arc<;>simp [hh]
include hl
theorem zls {i:Int} {r:List Int} (hr:∀ x∈r,l.nd x∧(l.node x).1.level=i) {w:Int} (h:w∈vsL l r):l.okV i w∧l.vertex i w∈r:=by
 obtain ⟨x,hx,rfl⟩:=List.mem_map.1 h
 obtain ⟨h1,h2⟩:=List.mem_filter.1 hx
 obtain ⟨n1,n2⟩:=hr x h1
 rcases zcN hl n1 with ⟨j,w,hw,rfl⟩ | ⟨s,j,d,hs,rfl⟩
 ·rw [(zac hl hw).2.1] at n2 ⊢
  have:j=i:=n2
  subst this; exact ⟨hw,h1⟩
 ·rw [(zar hl hs).2] at h2; simp at h2
theorem zqo {i:Int} (hi:0≤i∧i<l.lev):∀ (r:List Int),r.Nodup→(∀ x∈r,l.nd x∧(l.node x).1.level=i)→acN l r=(List.range l.S).countP (fun s:Nat=>decide (l.arc s i 0∈r))+(List.range l.S).countP fun s:Nat=>decide (l.arc s i 1∈r):=by
 intro r
 induction r with
 | nil=>intro _ _; simp [acN]
 | cons x r ih =>
  intro hnd hx
  obtain ⟨n1,n2⟩:=List.nodup_cons.1 hnd
  obtain ⟨nx,lx⟩:=hx x (by simp)
  have ih':=ih n2 fun y hy=>hx y (by simp [hy])
  have okA:∀ w:Nat,w∈List.range l.S→∀ d,0≤d∧d<2→l.okA w i d:=fun w hw d hd=>⟨by have:=List.mem_range.1 hw; omega,hi,hd⟩
  have hcons:acN l (x :: r)=acN l r+if (l.node x).1.arc then 1 else 0:=by unfold acN; rw [List.countP_cons]
  have same:∀ d,0≤d∧d<2→(∀ s:Nat,s∈List.range l.S→l.arc s i d≠x)→(List.range l.S).countP (fun s:Nat=>decide (l.arc s i d∈x :: r))=(List.range l.S).countP fun s:Nat=>decide (l.arc s i d∈r):=fun d hd h=>zb8 fun s hs=>by have:=h s hs; simp [this]
  have more:∀ d,0≤d∧d<2→∀ s,l.okA s i d→l.arc s i d=x→(List.range l.S).countP (fun s:Nat=>decide (l.arc s i d∈x :: r))=(List.range l.S).countP (fun s:Nat=>decide (l.arc s i d∈r))+1:=fun d hd s hs he=>by
   have es:((s.toNat:Nat):Int)=s:=by have:=hs.1; omega
   exact zcx (s:=s.toNat) (fun y hy hne=>by
    have:l.arc y i d≠x:=fun h2=>hne (by have:=((za7 hl (okA y hy d hd) hs).1 (h2.trans he.symm)).1; omega)
    simp [this]) (List.mem_range.2 (by have:=hs.1; omega)) (by rw [es,he]; simpa using n1) (by rw [es,he]; simp) List.nodup_range
  rw [hcons,ih']
  rcases zcN hl nx with ⟨j,w,hw,rfl⟩ | ⟨s,j,d,hs,rfl⟩
  ·rw [(zac hl hw).2.1,same 0 (by omega) fun s hs he=>zaA hl hw (okA s hs 0 (by omega)) he.symm,same 1 (by omega) fun s hs he=>zaA hl hw (okA s hs 1 (by omega)) he.symm]; rfl
  ·rw [(zar hl hs).2] at lx ⊢
   have hji:j=i:=lx
   subst hji
   have hd:d=0∨d=1:=by have:=hs.2.2; omega
   rcases hd with rfl | rfl
   ·rw [more 0 (by omega) s hs rfl,same 1 (by omega) fun t ht he=>by have:=((za7 hl (okA t ht 1 (by omega)) hs).1 he).2.2; omega]
    show _+1=_; omega
   ·rw [more 1 (by omega) s hs rfl,same 0 (by omega) fun t ht he=>by have:=((za7 hl (okA t ht 0 (by omega)) hs).1 he).2.2; omega]
    show _+1=_; omega
theorem zeG (hI:InvR l pr σ F mk g L) {i x:Int} (hi:0≤i∧i<l.lev) (hx:l.nd x) (hv:(l.node x).1.level=i):∀ y∈(F x).list,l.nd y∧(l.node y).1.level=i:=fun y hy=>⟨(hI.lm.forest.rep x hx).nd y hy,(hI.tours i hi).lev x hx hv y hy⟩
theorem ziC (hI:InvR l pr σ F mk g L) {i u:Int} (hi:0≤i∧i<l.lev) (hu:0≤u∧u<l.V):(vsL l (F (l.vertex i u)).list).length=nv l g i u∧acN l (F (l.vertex i u)).list=2 * ne l g i u:=by
 have ou:l.okV i u:=⟨hi,hu⟩
 have hF:=hI.lm.forest; have hT:=hI.tours i hi
 obtain ⟨nx,ex,_⟩:=zac hl ou
 have hr:=zeG hl hI hi nx (by rw [ex])
 have hnd:=hF.nodup _ nx
 constructor
 ·have h1:=(zhy (l:=l) (F (l.vertex i u)).list).1
  rw [zlq hl hi _ hnd hr] at h1
  have h2:(List.range l.V).countP (fun w:Nat=>decide (l.vertex i w∈(F (l.vertex i u)).list))=nv l g i u:=by
   classical
   unfold nv
   exact zb8 fun w hw=>zfJ (by
    have ow:l.okV i w:=⟨hi,by have:=List.mem_range.1 hw; omega⟩
    rw [hF.mem_iff hl (zac hl ow).1 nx,eq_comm]
    exact hT.row_iff hl hi ou ow)
  omega
 ·rw [zqo hl hi _ hnd hr]
  have key:∀ d,0≤d∧d<2→(List.range l.S).countP (fun s:Nat=>decide (l.arc s i d∈(F (l.vertex i u)).list))=ne l g i u:=fun d hd=>by
   classical
   unfold ne
   exact zb8 fun s hs=>zfJ (by
    have oa:l.okA s i d:=⟨by have:=List.mem_range.1 hs; omega,hi,hd⟩
    have na:=(zar hl oa).1
    rw [hF.mem_iff hl na nx]
    by_cases hp:Pg g i s
    ·obtain ⟨a1,a2,a3⟩:=hT.arcs s hp
     have hr2:=(hI.edges.rng s hp.1).2.1
     have e:F (l.arc s i d)=F (l.vertex i (g.u s)):=by
      have:d=0∨d=1:=by omega
      rcases this with rfl | rfl
      ·exact a2.symm
      ·rw [a1,a2]
     rw [e,eq_comm]
     have:=hT.row_iff hl hi ou (v:=g.u s) ⟨hi,by omega⟩
     exact ⟨fun h=>⟨hp,this.1 h⟩,fun h=>this.2 h.2⟩
    ·refine ⟨fun h=>?_,fun h=>absurd h.1 hp⟩
     have h1:=hT.single s d oa hp
     have h2:=hF.mem _ nx
     rw [←h,h1] at h2
     exact absurd (List.mem_singleton.1 h2) (zaA hl ou oa))
  rw [key 0 (by omega),key 1 (by omega)]; omega
structure Part (l:Lay) (g:G) (i s:Int) (B O:List Int) (c:Int):Prop where
 hc:c=0∨c=1
 bi:∀ w,l.okV i w→l.vertex i w∈B→Conn (fun q=>Pg g i q∧q≠s) g.u g.v w (if c=0 then g.u s else g.v s)
 bo:∀ w,l.okV i w→l.vertex i w∈O→Conn (fun q=>Pg g i q∧q≠s) g.u g.v w (if c=0 then g.v s else g.u s)
 ne:¬Conn (fun q=>Pg g i q∧q≠s) g.u g.v (g.u s) (g.v s)
 hi:∃ w,l.okV i w∧l.vertex i w∈B
 ho:∃ w,l.okV i w∧l.vertex i w∈O
theorem zpu (hI:InvR l pr σ F mk g L) {i s:Int} (hi:0≤i∧i<l.lev) (hP:Pg g i s) :
  ∃ A e1 B e2 C c,(F (l.arc s i 0)).list=A++e1 :: (B++e2 :: C)∧((e1=l.arc s i 0∧e2=l.arc s i 1)∨(e1=l.arc s i 1∧e2=l.arc s i 0))∧Part l g i s B (A++C) c:=by
 have hh:=hP.1
 obtain ⟨hu,hv,h0,h1⟩:=hI.okuv hl hh hi
 have hT:=hI.tours i hi
 have hF:=hI.lm.forest
 have n0:=(zar hl h0).1
 have n1:=(zar hl h1).1
 have n01:l.arc s i 0≠l.arc s i 1:=fun he=>by have:=((za7 hl h0 h1).1 he).2.2; omega
 have m0:=hF.mem _ n0
 have m1:l.arc s i 1∈(F (l.arc s i 0)).list:=by rw [←(hT.arcs s hP).1]; exact hF.mem _ n1
 obtain ⟨e1,e2,A,B,C,he,hL⟩:∃ e1 e2 A Bm C,((e1=l.arc s i 0∧e2=l.arc s i 1)∨(e1=l.arc s i 1∧e2=l.arc s i 0))∧(F (l.arc s i 0)).list=A++e1 :: (Bm++e2 :: C):=by
  obtain ⟨X,Y,hXY⟩:=List.append_of_mem m0
  rw [hXY] at m1
  rcases List.mem_append.1 m1 with hm | hm
  ·obtain ⟨X1,X2,hX⟩:=List.append_of_mem hm
   exact ⟨_,_,X1,X2,Y,.inr ⟨rfl,rfl⟩,by rw [hXY,hX]; simp⟩
  ·rcases List.mem_cons.1 hm with hm | hm
   ·exact absurd hm.symm n01
   ·obtain ⟨Y1,Y2,hY⟩:=List.append_of_mem hm
    exact ⟨_,_,X,Y1,Y2,.inl ⟨rfl,rfl⟩,by rw [hXY,hY]⟩
 obtain ⟨r,σ',F',ti,to,e,li,lo,hF',tti,tto,l0,l1,hn,hfr⟩:=hF.cut hl (zgZ hl) h0 h1 he hL (k:=561) (by decide)
 obtain ⟨hT',hne⟩:=hT.cut hl hi hF hF' hP he hL li lo tti tto l0 l1 hn
 have inB:∀ w,l.okV i w→l.vertex i w∈B→F' (l.vertex i w)=ti:=fun w hw hm=>(tti _ (by rw [li]; exact hm)).2
 have inO:∀ w,l.okV i w→l.vertex i w∈A++C→F' (l.vertex i w)=to:=fun w hw hm=>(tto _ (by rw [lo]; exact hm)).2
 have mem:∀ w,l.okV i w→F (l.vertex i w)=F (l.arc s i 0)→l.vertex i w∈B∨l.vertex i w∈A++C:=fun w hw hf=>by
  have hm:=hF.mem _ (zac hl hw).1
  rw [hf,hL] at hm
  have x0:=zaA hl hw h0; have x1:=zaA hl hw h1
  have xe1:l.vertex i w≠e1:=by rcases he with ⟨a,_⟩ | ⟨a,_⟩<;>rw [a]<;>assumption
  have xe2:l.vertex i w≠e2:=by rcases he with ⟨_,a⟩ | ⟨_,a⟩<;>rw [a]<;>assumption
  simp only [List.mem_append,List.mem_cons] at hm ⊢
  rcases hm with h | h | h | h | h
  ·exact .inr (.inl h)
  ·exact absurd h xe1
  ·exact .inl h
  ·exact absurd h xe2
  ·exact .inr (.inr h)
 have mu:=mem _ hu (hT.arcs s hP).2.1
 have mv:=mem _ hv (hT.arcs s hP).2.2
 have nc:¬Conn (fun q=>Pg g i q∧q≠s) g.u g.v (g.u s) (g.v s):=hT.bridge hl hi hF hP
 have iff:=fun {x y} (hx:l.okV i x) (hy:l.okV i y)=>hT'.row_iff hl hi hx hy
 refine ⟨A,e1,B,e2,C,?_⟩
 rcases mu with mu | mu
 ·have mv:l.vertex i (g.v s)∈A++C:=mv.resolve_left fun h=>hne ((inB _ hu mu).trans (inB _ hv h).symm)
  exact ⟨0,hL,he,.inl rfl,fun w hw hm=>by rw [if_pos rfl]; exact (iff hw hu).1 ((inB w hw hm).trans (inB _ hu mu).symm),fun w hw hm=>by rw [if_pos rfl]; exact (iff hw hv).1 ((inO w hw hm).trans (inO _ hv mv).symm),nc,⟨_,hu,mu⟩,⟨_,hv,mv⟩⟩
 ·have mv:l.vertex i (g.v s)∈B:=mv.resolve_right fun h=>hne ((inO _ hu mu).trans (inO _ hv h).symm)
  exact ⟨1,hL,he,.inr rfl,fun w hw hm=>by rw [if_neg (by decide)]; exact (iff hw hv).1 ((inB w hw hm).trans (inB _ hv mv).symm),fun w hw hm=>by rw [if_neg (by decide)]; exact (iff hw hu).1 ((inO w hw hm).trans (inO _ hu mu).symm),nc,⟨_,hv,mv⟩,⟨_,hu,mu⟩⟩
omit hl
def cutW (x y:Int):Nat→List Int→List Int×List Int
 | _,[]=>([],[])
 | s,z :: r=>if z=x∨z=y then cutW x y (s+1) r else if s=1 then (z :: (cutW x y s r).1,(cutW x y s r).2) else ((cutW x y s r).1,z :: (cutW x y s r).2)
theorem zf7 {x y:Int} {s:Nat}:∀ {A R:List Int},(∀ z∈A,z≠x∧z≠y)→cutW x y s (A++R)=if s=1 then (A++(cutW x y s R).1,(cutW x y s R).2) else ((cutW x y s R).1,A++(cutW x y s R).2)
 | [],R,_=>by simp
 | z :: A,R,h=>by
  have hz:=h z (by simp)
  have ih:=zf7 (x:=x) (y:=y) (s:=s) (A:=A) (R:=R) fun w hw=>h w (by simp [hw])
  rw [List.cons_append,cutW,if_neg (by omega),ih]
  by_cases e:s=1<;>simp [e]
theorem zqe {x y e1 e2:Int} {A B C:List Int} (hnd:(A++e1 :: (B++e2 :: C)).Nodup) (he:(e1=x∧e2=y)∨(e1=y∧e2=x)):cutW x y 0 (A++e1 :: (B++e2 :: C))=(B,A++C):=by
 have hA:∀ z,z∈A→z≠e1∧z≠e2:=fun z hz=>⟨fun h=>(List.nodup_append.1 hnd).2.2 z hz e1 (by simp) h,fun h=>(List.nodup_append.1 hnd).2.2 z hz e2 (by simp) h⟩
 have hnd2:=(List.nodup_append.1 hnd).2.1
 obtain ⟨n1,hnd3⟩:=List.nodup_cons.1 hnd2
 have hB:∀ z,z∈B→z≠e1∧z≠e2:=fun z hz=>⟨fun h=>n1 (by simp [←h,hz]),fun h=>(List.nodup_append.1 hnd3).2.2 z hz e2 (by simp) h⟩
 obtain ⟨n4,hnd4⟩:=List.nodup_cons.1 (List.nodup_append.1 hnd3).2.1
 have hC:∀ z,z∈C→z≠e1∧z≠e2:=fun z hz=>⟨fun h=>n1 (by simp [←h,hz]),fun h=>n4 (h▸hz)⟩
 have conv:∀ z,z≠e1∧z≠e2→z≠x∧z≠y:=fun z hz=>by rcases he with ⟨a,b⟩ | ⟨a,b⟩<;>omega
 have hC0:=zf7 (x:=x) (y:=y) (s:=2) (A:=C) (R:=[]) fun z hz=>conv z (hC z hz)
 rw [if_neg (by decide),List.append_nil] at hC0
 rw [zf7 (fun z hz=>conv z (hA z hz)),if_neg (by decide),cutW,if_pos (by omega),zf7 (fun z hz=>conv z (hB z hz)),if_pos rfl,cutW,if_pos (by omega),hC0]
 simp [cutW]
theorem NmOk.vtx {l:Lay} (hl:l.Ok) {n:Nm} {x:Int} (h:NmOk l n x) (hk:n.k=1):n.b=(l.node x).1.vertex∧(l.node x).1.arc=false:=by
 rcases h.as with ⟨_,_,h3,rfl⟩ | ⟨h1,_⟩
 ·rw [(zac hl h3).2.1]; exact ⟨rfl,rfl⟩
 ·omega
theorem NmOk.arcs {l:Lay} (hl:l.Ok) {n:Nm} {x:Int} (h:NmOk l n x) (hk:¬n.k=1):n.k=2∧l.okA n.a n.b n.c∧x=l.arc n.a n.b n.c∧(l.node x).1.arc=true:=by
 rcases h.as with ⟨h1,_⟩ | ⟨h1,h2,h3⟩
 ·omega
 ·refine ⟨h1,h2,h3.symm,?_⟩
  rw [←h3,(zar hl h2).2]
theorem zg9 {l:Lay} (hl:l.Ok) {i u v c:Int} {Q:Int→Prop} {eu ev:Int→Int} {X:List Int} {fg:Nat→Int×Int} {gn:Nat} (hj:∀ x y,zcY fg gn x y=true↔Conn Q eu ev x y) (hx:∀ w,l.okV i w→l.vertex i w∈X→Conn Q eu ev w (if c=0 then u else v)) (ne:¬Conn Q eu ev u v)
  (hr:∀ y∈X,l.nd y∧(l.node y).1.level=i) {j:Nat} (hj2:j<X.toArray.size) (ha:(l.node X.toArray[j]!).1.arc=false):zcY fg gn (l.node X.toArray[j]!).1.vertex u=decide (c=0)∧(c=0→zcY fg gn (l.node X.toArray[j]!).1.vertex u=true)∧(¬c=0→zcY fg gn (l.node X.toArray[j]!).1.vertex v=true):=by
 have hm:X.toArray[j]!∈X:=by rw [getElem!_pos _ j hj2]; simp
 obtain ⟨n1,n2⟩:=hr _ hm
 generalize X.toArray[j]! =y at *
 obtain ⟨w,hw,rfl⟩:∃ w,l.okV i w∧y=l.vertex i w:=by
  rcases zcN hl n1 with ⟨k,w,hw,rfl⟩ | ⟨s,k,d,hs,rfl⟩
  ·rw [(zac hl hw).2.1] at n2
   have:k=i:=n2
   subst this; exact ⟨w,hw,rfl⟩
  ·rw [(zar hl hs).2] at ha; cases ha
 have h1:=hx w hw hm
 rw [(zac hl hw).2.1]
 show zcY fg gn w u=_∧(_→zcY fg gn w u=true)∧(_→zcY fg gn w v=true)
 by_cases e:c=0
 ·rw [if_pos e] at h1
  have h2:=(hj w u).2 h1
  exact ⟨by rw [h2,decide_eq_true e],fun _=>h2,fun h=>absurd e h⟩
 ·rw [if_neg e] at h1
  have h2:=(hj w v).2 h1
  refine ⟨?_,fun h=>absurd h e,fun _=>h2⟩
  rw [decide_eq_false e,Bool.eq_false_iff]
  exact fun h3=>ne (((hj w u).1 h3).symm.trans h1)
theorem zlI {l:Lay} (hl:l.Ok) {i:Int} {X:List Int} (h:∃ w,l.okV i w∧l.vertex i w∈X):∃ j,j<X.toArray.size∧(l.node X.toArray[j]!).1.arc=false:=by
 obtain ⟨w,hw,hm⟩:=h
 obtain ⟨j,hj,e⟩:=List.mem_iff_getElem.1 hm
 have hj2:j<X.toArray.size:=by simpa using hj
 refine ⟨j,hj2,?_⟩
 rw [getElem!_pos _ j hj2,show X.toArray[j]=X[j] from by simp,e,(zac hl hw).2.1]
theorem ziR {f:Nat→Int} {n:Nat} {r:List Int} {x:Int} (hf:∀ j,j<n→f j=r[j]!) (hn:n=r.length) (hx:x∈r):hasN f x n=true:=by
 obtain ⟨j,hj,e⟩:=List.mem_iff_getElem.1 hx
 exact zef.2 ⟨j,by omega,by rw [hf j (by omega),getElem!_pos r j hj,e]⟩
structure CutI (x y:Int) (r:List Int) (k s:Nat) (I O:List Int):Prop where
 eq:cutW x y 0 r=(I++(cutW x y s (r.drop k)).1,O++(cutW x y s (r.drop k)).2)
 hi:I.length≤k
 ho:O.length≤k
 hs:s≤k
theorem CutI.start {x y:Int} {r:List Int}:CutI x y r 0 0 [] []:=⟨by simp,Nat.le_refl _,Nat.le_refl _,Nat.le_refl _⟩
theorem CutI.arc {x y:Int} {r:List Int} {k s:Nat} {I O:List Int} (h:CutI x y r k s I O) (hk:k<r.length) (hz:r[k]! =x∨r[k]! =y):CutI x y r (k+1) (s+1) I O:=by
 have e:=h.eq
 rw [List.drop_eq_getElem_cons hk,←getElem!_pos r k hk,cutW,if_pos hz] at e
 exact ⟨e,by have:=h.hi; omega,by have:=h.ho; omega,by have:=h.hs; omega⟩
theorem CutI.inner {x y:Int} {r:List Int} {k s:Nat} {I O:List Int} (h:CutI x y r k s I O) (hk:k<r.length) (hx:¬r[k]! =x) (hy:¬r[k]! =y) (hs:(s:Int)=1):CutI x y r (k+1) s (I++[r[k]!]) O:=by
 have e:=h.eq
 rw [List.drop_eq_getElem_cons hk,←getElem!_pos r k hk,cutW,if_neg (by omega),if_pos (by omega)] at e
 exact ⟨by rw [e]; simp,by have:=h.hi; simp; omega,by have:=h.ho; omega,by have:=h.hs; omega⟩
theorem CutI.outer {x y:Int} {r:List Int} {k s:Nat} {I O:List Int} (h:CutI x y r k s I O) (hk:k<r.length) (hx:¬r[k]! =x) (hy:¬r[k]! =y) (hs:¬(s:Int)=1):CutI x y r (k+1) s I (O++[r[k]!]):=by
 have e:=h.eq
 rw [List.drop_eq_getElem_cons hk,←getElem!_pos r k hk,cutW,if_neg (by omega),if_neg (by omega)] at e
 exact ⟨by rw [e]; simp,by have:=h.hi; omega,by have:=h.ho; simp; omega,by have:=h.hs; omega⟩
theorem CutI.end {x y:Int} {r:List Int} {k s:Nat} {I O:List Int} (h:CutI x y r k s I O) (hk:¬k<r.length):cutW x y 0 r=(I,O):=by
 have e:=h.eq
 rw [List.drop_of_length_le (by omega)] at e
 simpa [cutW] using e
theorem zj1 {l:Lay} (hl:l.Ok) {σ:M} {mk pr:Int→Int} {F:Int→T} {g:G} {L:Int→Int→List Int} (hI:InvR l pr σ F mk g L) {i x:Int} (hi:0≤i∧i<l.lev) (hx:l.nd x) (hlx:(l.node x).1.level=i) (hv0:vsL l (F x).list=[]) {n:Nm} {z:Nat} (hn:NmOk l n (z:Int)) (hz:(F x).list[0]! =(z:Int))
  {D:Array (Int×Int)} (hDz:D.size=l.S) (hD:∀ q,q<D.size→D[q]! =grP g (Pg g i) q):∃ s:Nat,s<D.size∧n.a=(s:Int)∧D[s]! =(-1,-1)∧(F x).list.length=1:=by
 have hF:=hI.lm.forest; have hT:=hI.tours i hi
 have hlev:=zeG hl hI hi hx hlx
 have noV:∀ y∈(F x).list,(l.node y).1.arc=true:=fun y hy=>by
  cases h:(l.node y).1.arc with
  | true=>rfl
  | false =>
   have:(l.node y).1.vertex∈vsL l (F x).list:=List.mem_map.2 ⟨y,List.mem_filter.2 ⟨hy,by rw [h]; rfl⟩,rfl⟩
   rw [hv0] at this; cases this
 have hxm:=hF.mem x hx
 have hpos:=List.length_pos_of_mem hxm
 have hzm:(z:Int)∈(F x).list:=by rw [←hz,getElem!_pos _ 0 hpos]; exact List.getElem_mem _
 have hza:=noV _ hzm
 obtain ⟨a1,a2,a3,a4⟩:=hn.arcs hl fun hk=>by have:=(hn.vtx hl hk).2; rw [hza] at this; cases this
 have hlz:=(hlev _ hzm).2
 rw [a3,(zar hl a2).2] at hlz
 have e:n.b=i:=hlz
 rw [e] at a2 a3
 have hsr:=a2.1
 have hnP:¬Pg g i n.a:=fun hp=>by
  obtain ⟨b1,b2,b3⟩:=hT.arcs _ hp
  have r2:=(hI.edges.rng _ hp.1).2.1
  have hFz:=hF.cls x hx _ hzm
  have hfa:F (l.vertex i (g.u n.a))=F x:=by
   rw [b2,←hFz,a3]
   have:n.c=0∨n.c=1:=by have:=a2.2.2; omega
   rcases this with h | h<;>rw [h]
   exact b1.symm
  have ov:l.okV i (g.u n.a):=⟨hi,by omega⟩
  have hm:=hF.mem _ (zac hl ov).1
  rw [hfa] at hm
  have:=noV _ hm
  rw [(zac hl ov).2.1] at this; cases this
 refine ⟨n.a.toNat,by omega,by omega,?_,?_⟩
 ·rw [hD _ (by omega),show ((n.a.toNat:Nat):Int)=n.a by omega]; unfold grP; rw [if_neg hnP]
 ·have:=hT.single _ _ a2 hnP
  rw [←a3,hF.cls x hx _ hzm] at this
  rw [this]; rfl
theorem zll {l:Lay} (hl:l.Ok) {σ:M} {mk pr:Int→Int} {F:Int→T} {g:G} {L:Int→Int→List Int} (hI:InvR l pr σ F mk g L) {i x u:Int} (hi:0≤i∧i<l.lev) (hu:l.okV i u) (hFu:F x=F (l.vertex i u)) {n:Nm} {z:Int} (hn:NmOk l n z) (hzm:z∈(F x).list) (hk:n.k=2) (hc:n.c=0) :
  ∃ s:Nat,(s:Int)<l.S∧n.a=(s:Int)∧Pg g i (s:Int)∧F (l.arc (s:Int) i 0)=F x:=by
 have hF:=hI.lm.forest; have hT:=hI.tours i hi
 have nx:=(zac hl hu).1
 rw [hFu] at hzm ⊢
 have hlev:=zeG hl hI hi nx (by rw [(zac hl hu).2.1])
 obtain ⟨a1,a2,a3,a4⟩:=hn.arcs hl (by omega)
 have hlz:=(hlev _ hzm).2
 rw [a3,(zar hl a2).2] at hlz
 have e:n.b=i:=hlz
 rw [e,hc] at a2 a3
 have hsr:=a2.1
 have es:((n.a.toNat:Nat):Int)=n.a:=by omega
 have hFz:=hF.cls _ nx _ hzm
 refine ⟨n.a.toNat,by omega,by omega,?_,by rw [es,←a3]; exact hFz⟩
 rw [es]
 by_cases hp:Pg g i n.a
 ·exact hp
 ·have h1:=hT.single _ _ a2 hp
  rw [←a3,hFz] at h1
  have h2:=hF.mem _ nx
  rw [h1,a3] at h2
  exact absurd (List.mem_singleton.1 h2) (zaA hl hu a2)
end
section
variable {l:Lay} (hl:l.Ok) {σ:M} {mk pr:Int→Int} {F:Int→T} {g:G} {L:Int→Int→List Int} {d:Array EdR}
def UsI (d:Array EdR) (k:Nat) (D:Array Int):Prop:=∀ s,s<D.size→D[s]! =if ∃ q,q<k∧d[q]!.slot=(s:Int) then 1 else 0
theorem UsI.start {N:Nat}:UsI d 0 (Array.replicate N 0):=fun s hs=>by
 rw [getElem!_pos _ s hs,if_neg fun ⟨q,h,_⟩=>absurd h (Nat.not_lt_zero _)]; simp
theorem UsI.b {k s:Nat} {D:Array Int} (h:UsI d k D) (hs:s<D.size):0≤D[s]!∧D[s]!≤1:=by rw [h s hs]; split<;>omega
theorem UsI.step (hM:Mt g d) {k s:Nat} {D:Array Int} (h:UsI d k D) (hk:k<d.size) (hs:d[k]!.slot=(s:Int)) (hsD:s<D.size):UsI d (k+1) (D.setIfInBounds s (D[s]!+1)):=fun t ht=>by
 rw [get!_set' hsD]
 by_cases e:s=t
 ·subst e
  rw [if_pos rfl,h s hsD,if_neg fun ⟨q,h1,h2⟩=>by have:=hM.inj q k (by omega) hk (by omega); omega,if_pos ⟨k,by omega,hs⟩]; rfl
 ·rw [if_neg e,h t (by simpa using ht)]
  have:(∃ q,q<k∧d[q]!.slot=(t:Int))↔∃ q,q<k+1∧d[q]!.slot=(t:Int):=⟨fun ⟨q,h1,h2⟩=>⟨q,by omega,h2⟩,fun ⟨q,h1,h2⟩=>⟨q,ltk h1 fun e2=>by subst e2; omega,h2⟩⟩
  simp only [this]
theorem zqP {m:Nat} (h:m≤16):IntKind.i64.wrap ((m:Int).tdiv 2)=((m / 2:Nat):Int):=by
 have h2:((m:Nat):Int).tdiv 2=((m / 2:Nat):Int):=by rw [Int.tdiv_eq_ediv_of_nonneg (by omega)]; rfl
 rw [h2,zbq (by omega)]
theorem zpI {V i m:Nat} (h:m=V / 2 ^ i):m≤V∧m / 2=V / 2 ^ (i+1):=⟨h▸Nat.div_le_self _ _,by rw [h,Nat.div_div_eq_div_mul,Nat.pow_succ]⟩
include hl
theorem zn5 (hI:InvR l pr σ F mk g L):∀ x,l.nd x→∀ y∈(F x).list,(l.node y).1.level=(l.node x).1.level:=fun x hx y hy=>by
 have:0≤(l.node x).1.level∧(l.node x).1.level<l.lev:=by
  rcases zcN hl hx with ⟨i,v,hv,rfl⟩ | ⟨s,i,d,hs,rfl⟩
  ·rw [(zac hl hv).2.1]; exact hv.1
  ·rw [(zar hl hs).2]; exact hs.2.1
 exact (hI.tours _ this).lev x hx rfl y hy
theorem vs_le (hI:InvR l pr σ F mk g L) {i x:Int} (hi:0≤i∧i<l.lev) (hx:l.nd x) (hlx:(l.node x).1.level=i) {N:Nat} (hN:∀ u:Int,0≤u∧u<l.V→nv l g i u≤N):(vsL l (F x).list).length≤N:=by
 cases h:vsL l (F x).list with
 | nil=>exact Nat.zero_le _
 | cons u r =>
  obtain ⟨h1,h2⟩:=zls hl (zeG hl hI hi hx hlx) (w:=u) (by rw [h]; simp)
  have h3:=hI.lm.forest.cls x hx _ h2
  have h4:=(ziC hl hI hi h1.2).1
  rw [h3,h] at h4
  rw [h4]; exact hN u h1.2
end
def zpe (l:Lay) (g:G):Prop:=∀ i:Nat,(i:Int)<l.lev→(∀ u:Int,0≤u∧u<l.V→nv l g i u≤l.V / 2 ^ i)∧∀ s,g.has s=true→g.tr s=false→(i:Int)≤g.lv s→Jn g i (g.u s) (g.v s)
end Go.Tm
namespace Go.Tm
open MemLike Eng
set_option linter.unusedSectionVars false
set_option linter.unusedVariables false
def zfW (σ:M):Nat→Array Int
 | 0=>#[]
 | i+1=>zfW σ i++#[get σ (i:Int)]
theorem zc6 {σ:M}:∀ {i:Nat},(zfW σ i).size=i
 | 0=>rfl
 | i+1=>by rw [zfW]; simp [zc6]
theorem zhq {σ:M}:∀ {i j:Nat},j<i→(zfW σ i)[j]! =get σ (j:Int)
 | i+1,j,h=>by
  rw [zfW]
  by_cases e:j=i
  ·subst e; have:=get!_app2 (a:=zfW σ j) (b:=#[get σ (j:Int)]) (j:=0) (by simp); rw [zc6] at this; simpa using this
  ·rw [get!_app (by rw [zc6]; omega)]; exact zhq (by omega)
theorem Mt.find {g:G} {d e:Array EdR} (h:Mt g d) (h':Mt g e) {j:Nat} (hj:j<e.size):∃ i:Nat,i<d.size∧slotN (fun i=>d[i]!) e[j]!.slot d.size=(i:Int)∧d[i]! =e[j]!:=by
 obtain ⟨r1,r2,r3,r4,r5⟩:=h'.row j hj
 rcases zeF (f:=fun i=>d[i]!) (s:=e[j]!.slot) (n:=d.size) with ⟨_,h2⟩ | ⟨i,hi,h1,h2⟩
 ·obtain ⟨i,hi,hs⟩:=h.cov _ r1
  exact absurd hs (h2 i hi)
 ·refine ⟨i,hi,h1,?_⟩
  obtain ⟨q1,q2,q3,q4,q5⟩:=h.row i hi
  have h2:d[i]!.slot=e[j]!.slot:=h2
  rw [h2] at q2 q3 q4 q5
  have e1:d[i]!.u=e[j]!.u:=q2.symm.trans r2
  have e2:d[i]!.v=e[j]!.v:=q3.symm.trans r3
  have e3:d[i]!.lv=e[j]!.lv:=q4.symm.trans r4
  have e4:d[i]!.tr=e[j]!.tr:=q5.symm.trans r5
  cases hx:d[i]!; cases hy:e[j]!
  rw [hx,hy] at h2 e1 e2 e3 e4
  simp only at h2 e1 e2 e3 e4
  subst h2 e1 e2 e3 e4; rfl
end Go.Tm
namespace Go.Tm
open MemLike Eng
set_option linter.unusedSectionVars false
set_option linter.unusedVariables false
def upL (P:Nat→Bool):Nat→List Int
 | 0=>[]
 | j+1=>if P j then upL P j++[(j:Int)] else upL P j
theorem upL_T {P:Nat→Bool} {j:Nat} (h:P j=true):upL P (j+1)=upL P j++[(j:Int)]:=by rw [upL,if_pos h]
theorem upL_F {P:Nat→Bool} {j:Nat} (h:P j=false):upL P (j+1)=upL P j:=by rw [upL,if_neg (by rw [h]; decide)]
theorem zjd {P:Nat→Bool} {x:Int}:∀ {n:Nat},x∈upL P n↔∃ j:Nat,j<n∧P j=true∧x=(j:Int)
 | 0=>by simp [upL]
 | n+1=>by
  cases h:P n with
  | true =>
   rw [upL_T h,List.mem_append,zjd]
   constructor
   ·rintro (⟨j,h1,h2,h3⟩ | h3)
    ·exact ⟨j,by omega,h2,h3⟩
    ·exact ⟨n,by omega,h,List.mem_singleton.1 h3⟩
   ·rintro ⟨j,h1,h2,h3⟩
    by_cases e:j=n
    ·subst e; exact .inr (by simp [h3])
    ·exact .inl ⟨j,by omega,h2,h3⟩
  | false =>
   rw [upL_F h,zjd]
   exact ⟨fun ⟨j,h1,h2⟩=>⟨j,by omega,h2⟩,fun ⟨j,h1,h2,h3⟩=>⟨j,ltk h1 fun e=>(by subst e; rw [h] at h2; cases h2),h2,h3⟩⟩
structure UpI (d:Array EdR) (r:List Int) (k:Nat) (D:Array EdR):Prop where
 size:D.size=d.size
 at_:∀ j,j<d.size→D[j]! =if (j:Int)∈r.take k then { d[j]! with lv:=d[j]!.lv+1 } else d[j]!
theorem UpI.start {d:Array EdR} {r:List Int}:UpI d r 0 d:=⟨rfl,fun j hj=>by rw [List.take_zero,if_neg (by simp)]⟩
theorem UpI.step {d:Array EdR} {r:List Int} {k q:Nat} {D:Array EdR} (h:UpI d r k D) (hk:k<r.length) (hq:r[k]! =(q:Int)) (hnd:r.Nodup) (hqd:q<d.size):D[q]! =d[q]!∧UpI d r (k+1) (D.setIfInBounds q { D[q]! with lv:=D[q]!.lv+1 }):=by
 have e:r[k]=(q:Int):=by rw [←hq,getElem!_pos r k hk]
 have hno:(q:Int)∉r.take k:=fun hm=>by
  obtain ⟨i,hi,he⟩:=List.mem_iff_getElem.1 hm
  rw [List.getElem_take] at he
  have hi2:i<k:=by have:=List.length_take_le k r; omega
  have:=(List.getElem_inj (h₀:=by omega) (h₁:=hk) hnd).1 (he.trans e.symm)
  omega
 have h0:D[q]! =d[q]!:=by rw [h.at_ q hqd,if_neg hno]
 refine ⟨h0,by simpa using h.size,fun j hj=>?_⟩
 rw [get!_set' (by rw [h.size]; exact hqd),List.take_succ_eq_append_getElem hk,e]
 by_cases ej:q=j
 ·subst ej; rw [if_pos rfl,if_pos (by simp),h0]
 ·have:((j:Int)∈r.take k++[(q:Int)])↔(j:Int)∈r.take k:=by simp; omega
  rw [if_neg ej,h.at_ j hj]; simp only [this]
section
variable {l:Lay} (hl:l.Ok) {pr:Int→Int} {σ:M} {g g':G} {d:Array EdR}
theorem Mt.up (hM:Mt g d) {i:Int} {C:Int→Prop} (h:Raised g g' i C) {P:Nat→Bool} (hC:∀ j,j<d.size→(P j=true↔C d[j]!.slot)) {D:Array EdR} {k:Nat} (hU:UpI d (upL P d.size) k D) (hk:(upL P d.size).length≤k):Mt g' D:=by
 have at_:∀ j,j<d.size→D[j]! =if P j then { d[j]! with lv:=d[j]!.lv+1 } else d[j]!:=fun j hj=>by
  rw [hU.at_ j hj,List.take_of_length_le hk]
  have:((j:Int)∈upL P d.size)↔P j=true:=by
   rw [zjd]
   constructor
   ·rintro ⟨j',h1,h2,h3⟩
    obtain rfl:j=j':=by omega
    exact h2
   ·exact fun h=>⟨j,hj,h,rfl⟩
  by_cases hp:P j=true
  ·rw [if_pos (this.2 hp),if_pos hp]
  ·rw [if_neg fun h=>hp (this.1 h),if_neg hp]
 have sl:∀ j,j<d.size→D[j]!.slot=d[j]!.slot∧D[j]!.u=d[j]!.u∧D[j]!.v=d[j]!.v∧D[j]!.tr=d[j]!.tr:=fun j hj=>by
  rw [at_ j hj]; split<;>exact ⟨rfl,rfl,rfl,rfl⟩
 have hz:=hU.size
 refine ⟨fun j hj=>?_,fun s hs=>?_,fun a b ha hb he=>?_⟩
 ·have hj:j<d.size:=by omega
  obtain ⟨s1,s2,s3,s4⟩:=sl j hj
  obtain ⟨r1,r2,r3,r4,r5⟩:=hM.row j hj
  rw [s1,s2,s3,s4,h.has,h.u,h.v,h.tr]
  refine ⟨r1,r2,r3,?_,r5⟩
  rw [at_ j hj]
  by_cases hp:P j=true
  ·rw [if_pos hp]
   obtain ⟨c1,c2,c3⟩:=h.up _ ((hC j hj).1 hp)
   rw [c3]; show _=d[j]!.lv+1; omega
  ·rw [if_neg hp,h.st _ fun c=>hp ((hC j hj).2 c)]; exact r4
 ·rw [h.has] at hs
  obtain ⟨j,hj,e⟩:=hM.cov s hs
  exact ⟨j,by omega,by rw [(sl j hj).1]; exact e⟩
 ·rw [(sl a (by omega)).1,(sl b (by omega)).1] at he
  exact hM.inj a b (by omega) (by omega) he
end
noncomputable def trP (d:Array EdR) (lv v:Int) (j:Nat):Bool:=d[j]!.tr && decide (d[j]!.lv=lv) && zbE d lv d[j]!.u v
theorem Rel.trees {l:Lay} (hl:l.Ok) {pr:Int→Int} {σ:M} {d:Array EdR} (h:Rel l pr σ d) {lv v:Int} (hv:l.okV lv v) (hi:lv+1<l.lev):∃ σ',Go.Tm.trees l P1 561 σ lv v=some σ' ∧
  ∀ D k,UpI d (upL (trP d lv v) d.size) k D→(upL (trP d lv v) d.size).length≤k→Rel l pr σ' D:=by
 obtain ⟨g,hR,hM⟩:=h
 obtain ⟨σ',g',e,hR',hRa⟩:=hR.trees hl (zgZ hl) hv hi (k:=561) (by decide)
 refine ⟨σ',e,fun D k hU hk=>⟨g',hR',hM.up hRa (fun j hj=>?_) hU hk⟩⟩
 obtain ⟨r1,r2,r3,r4,r5⟩:=hM.row j hj
 unfold trP
 rw [Bool.and_eq_true,Bool.and_eq_true,decide_eq_true_iff,zdy hl hR hM,r5,r4,r2]
 exact ⟨fun ⟨⟨a,b⟩,c⟩=>⟨r1,a,b,c.symm⟩,fun ⟨_,a,b,c⟩=>⟨⟨a,b⟩,c.symm⟩⟩
end Go.Tm
namespace Go.Tm
open MemLike Eng
set_option linter.unusedSectionVars false
set_option linter.unusedVariables false
theorem zaL.edges {l:Lay} {pr:Int→Int} {σ:M} {g:G} (h:zaL l pr σ g):EdgeOk l σ g:=by
 obtain ⟨F,mk,L,hI⟩:=h; exact hI.edges
theorem Mt.size_has {g g':G} {d e:Array EdR} (h:Mt g d) (h':Mt g' e) (hh:g'.has=g.has):d.size=e.size:=by
 have key:∀ {g g':G} {d e:Array EdR},Mt g d→Mt g' e→g'.has=g.has→d.size≤e.size:=fun {g g' d e} h h' hh=>by
  have:=zdo ((List.range d.size).map fun i=>d[i]!.slot) ((List.range e.size).map fun i=>e[i]!.slot) (List.pairwise_map.2 (List.nodup_range.imp_of_mem fun {a b} ha hb hne he=>hne (h.inj a b (List.mem_range.1 ha) (List.mem_range.1 hb) he))) fun s hs=>by
   obtain ⟨i,hi,rfl⟩:=List.mem_map.1 hs
   obtain ⟨j,hj,e1⟩:=h'.cov _ (by rw [hh]; exact (h.row i (List.mem_range.1 hi)).1)
   exact List.mem_map.2 ⟨j,List.mem_range.2 hj,e1⟩
  simpa using this
 exact Nat.le_antisymm (key h h' hh) (key h' h hh.symm)
theorem Mt.slotN {g:G} {d:Array EdR} (h:Mt g d) {s:Int} (hs:g.has s=true):∃ q:Nat,q<d.size∧slotN (fun i=>d[i]!) s d.size=(q:Int)∧d[q]!.slot=s:=by
 rcases zeF (f:=fun i=>d[i]!) (s:=s) (n:=d.size) with ⟨_,h2⟩ | ⟨i,hi,h1,h2⟩
 ·obtain ⟨i,hi,he⟩:=h.cov _ hs
  exact absurd he (h2 i hi)
 ·exact ⟨i,hi,h1,h2⟩
structure SeekF (d E:Array EdR) (lv v:Int) (r:Int×Bool) (q j:Nat):Prop where
 a:(d[q]!.tr=true∨¬d[q]!.lv=lv)→E[j]! =d[q]!
 b:d[q]!.tr=false→d[q]!.lv=lv→¬E[j]! =d[q]!→E[j]! ={ d[q]! with lv:=d[q]!.lv+1 }∧zbE d lv d[q]!.u v=true∧zbE d lv d[q]!.v v=true
 c:d[q]!.tr=false→d[q]!.lv=lv→E[j]! =d[q]!→r.2=false→zbE d lv d[q]!.u v=false∧zbE d lv d[q]!.v v=false
 d:d[q]!.tr=false→d[q]!.lv=lv→E[j]! =d[q]!→r.2=true→E[j]!.slot=r.1→(zbE d lv d[q]!.u v == zbE d lv d[q]!.v v)=false
structure SeekOk (d E:Array EdR) (lv v:Int) (r:Int×Bool):Prop where
 size:d.size=E.size
 ed:∀ j,j<E.size→∃ q:Nat,q<d.size∧Go.Tm.slotN (fun i=>d[i]!) E[j]!.slot d.size=(q:Int)∧SeekF d E lv v r q j
 t:r.2=true→∃ q:Nat,q<E.size∧Go.Tm.slotN (fun i=>E[i]!) r.1 E.size=(q:Int)∧E[q]!.tr=false∧E[q]!.lv=lv
 f:r.2=false→r.1=0
theorem Rel.seek {l:Lay} (hl:l.Ok) {pr:Int→Int} {σ:M} {d:Array EdR} (h:Rel l pr σ d) {lv v:Int} (hv:l.okV lv v) (hi:lv+1<l.lev):∃ r σ' g',Go.Tm.seek l 561 σ lv v=some (r,σ')∧zaL l pr σ' g'∧∀ E,Mt g' E→SeekOk d E lv v r:=by
 obtain ⟨g,hR,hM⟩:=h
 obtain ⟨r,σ',g',C,e,hR',hRa,hC,hFo⟩:=hR.seek hl hv hi (k:=561) (by decide)
 refine ⟨r,σ',g',e,hR',fun E hE=>?_⟩
 have fb:∀ {x:Int},zbE d lv x v=true↔Jn g lv v x:=fun {x}=>(zdy hl hR hM).trans ⟨fun c=>c.symm,fun c=>c.symm⟩
 have jn:∀ {x y:Int},Jn g' lv x y↔Jn g lv x y:=hRa.jn hl (Int.le_refl _)
 refine ⟨hM.size_has hE hRa.has,fun j hj=>?_,fun ht=>?_,fun hf=>?_⟩
 ·obtain ⟨r1,r2,r3,r4,r5⟩:=hE.row j hj
  obtain ⟨q,hq,h1,h2⟩:=hM.slotN (s:=E[j]!.slot) (by rw [←hRa.has]; exact r1)
  obtain ⟨q1,q2,q3,q4,q5⟩:=hM.row q hq
  rw [hRa.u] at r2; rw [hRa.v] at r3; rw [hRa.tr] at r5
  rw [h2] at q2 q3 q4 q5
  have eq_of:g'.lv E[j]!.slot=g.lv E[j]!.slot→E[j]! =d[q]!:=fun hlv=>by
   have e1:d[q]!.u=E[j]!.u:=q2.symm.trans r2
   have e2:d[q]!.v=E[j]!.v:=q3.symm.trans r3
   have e3:d[q]!.lv=E[j]!.lv:=by rw [←q4,←r4,hlv]
   have e4:d[q]!.tr=E[j]!.tr:=q5.symm.trans r5
   cases hx:d[q]!; cases hy:E[j]!
   rw [hx,hy] at h2 e1 e2 e3 e4
   simp only at h2 e1 e2 e3 e4
   subst h2 e1 e2 e3 e4; rfl
  have lv_of:E[j]! =d[q]!→g'.lv E[j]!.slot=g.lv E[j]!.slot:=fun he=>by rw [r4,q4,he]
  refine ⟨q,hq,h1,fun ha=>?_,fun ht hl1 hne=>?_,fun ht hl1 he hf=>?_,fun ht hl1 he hf hs=>?_⟩
  ·refine eq_of (hRa.st _ fun c=>?_)
   have c1:=(hC _ c).1; have c2:=(hRa.up _ c).2.1
   rcases ha with ha | ha
   ·rw [q5,ha] at c1; cases c1
   ·exact ha (q4.symm.trans c2)
  ·by_cases c:C E[j]!.slot
   ·obtain ⟨c1,c2,c3⟩:=hC _ c
    refine ⟨?_,fb.2 (by rw [←q2]; exact c2),fb.2 (by rw [←q3]; exact c3)⟩
    have e1:d[q]!.u=E[j]!.u:=q2.symm.trans r2
    have e2:d[q]!.v=E[j]!.v:=q3.symm.trans r3
    have e3:d[q]!.lv+1=E[j]!.lv:=by rw [←r4,(hRa.up _ c).2.2,hl1]
    have e4:d[q]!.tr=E[j]!.tr:=q5.symm.trans r5
    cases hx:d[q]!; cases hy:E[j]!
    rw [hx,hy] at h2 e1 e2 e3 e4
    simp only at h2 e1 e2 e3 e4
    subst h2 e1 e2 e3 e4; rfl
   ·exact absurd (eq_of (hRa.st _ c)) hne
  ·rcases hFo with ⟨_,h4⟩ | ⟨h4,_⟩
   ·obtain ⟨n1,n2⟩:=h4 E[j]!.slot r1 (by rw [hRa.tr,q5]; exact ht) (by rw [lv_of he,q4]; exact hl1)
    rw [jn,hRa.u,q2] at n1; rw [jn,hRa.v,q3] at n2
    exact ⟨Bool.eq_false_iff.2 fun h=>n1 (fb.1 h),Bool.eq_false_iff.2 fun h=>n2 (fb.1 h)⟩
   ·rw [hf] at h4; cases h4
  ·rcases hFo with ⟨h4,_⟩ | ⟨_,h5,h6,h7,h8,h9⟩
   ·rw [h4] at hf; cases hf
   ·rw [←hs] at h8 h9
    rw [jn,hRa.u,hRa.v,q2,q3] at h8
    rw [jn,jn,hRa.u,hRa.v,q2,q3] at h9
    have hx:=fb (x:=d[q]!.u); have hy:=fb (x:=d[q]!.v)
    cases hA:zbE d lv d[q]!.u v<;>cases hB:zbE d lv d[q]!.v v
    ·rcases h9 with h | h
     ·rw [hx.2 h] at hA; cases hA
     ·rw [hy.2 h] at hB; cases hB
    ·rfl
    ·rfl
    ·exact absurd ((hx.1 hA).symm.trans (hy.1 hB)) h8
 ·rcases hFo with ⟨h4,_⟩ | ⟨_,h5,h6,h7,h8,h9⟩
  ·rw [h4] at ht; cases ht
  ·obtain ⟨q,hq,h1,h2⟩:=hE.slotN h5
   obtain ⟨r1,r2,r3,r4,r5⟩:=hE.row q hq
   rw [h2] at r4 r5
   exact ⟨q,hq,h1,by rw [←r5]; exact h6,by rw [←r4]; exact h7⟩
 ·rcases hFo with ⟨h4,_⟩ | ⟨h4,_⟩
  ·rw [h4]
  ·rw [hf] at h4; cases h4
end Go.Tm
namespace Go.Tm
open MemLike Eng
set_option linter.unusedSectionVars false
set_option linter.unusedVariables false
section
variable {l:Lay} (hl:l.Ok) {p:Pen} (hp:PenOk p) {pr:Int→Int} {σ:M} {g:G} {d:Array EdR}
include hl hp
theorem zaL.fell_back (h:zaL l pr σ g) {s:Int} (hh:g.has s=true) (ht:g.tr s=true) {k:Nat} (hk:560<k) :
  ∃ σ1,Go.Tm.fell l p k σ s=some σ1∧(∀ i,0≤i∧i<l.lev→zju l k σ1 i s=some (false,σ1)∧Go.Tm.same l k σ1 i (g.u s) (g.v s)=some (false,σ1))∧∃ σ2,Go.Tm.plant l p k (zgR l σ1 s 0) s=some σ2∧zaL l pr σ2 (g.lift s 0):=by
 obtain ⟨F,mk,L,h⟩:=h
 have lb:=zb9 hl
 have hr:=h.edges.rng s hh
 have hbr:¬Conn (fun q=>Pg g 0 q∧q≠s) g.u g.v (g.u s) (g.v s):=(h.tours 0 (by omega)).bridge hl (by omega) h.lm.forest ⟨hh,ht,hr.2.2.1⟩
 obtain ⟨σ1,F1,mk1,e1,h1⟩:=h.fell hl hp hh (fun a _ ha=>⟨hh,ht,ha⟩) hk
 have hno:∀ i,0≤i→¬(Pg g i s∧¬(s=s∧0≤i∧i≤g.lv s)):=fun i hi hc=>hc.2 ⟨rfl,hi,hc.1.2.2⟩
 have hcn:∀ i,0≤i→¬Conn (fun q=>Pg g i q∧¬(q=s∧0≤i∧i≤g.lv s)) g.u g.v (g.u s) (g.v s):=fun i hi c=>hbr (c.mono fun q hq=>⟨⟨hq.1.1,hq.1.2.1,by have:=hq.1.2.2; omega⟩,fun e=>by subst e; exact hq.2 ⟨rfl,hi,hq.1.2.2⟩⟩)
 refine ⟨σ1,e1,fun i hi=>?_,?_⟩
 ·have hF:=h1.lm.forest
  have hT:=h1.tours i hi
  have o0:l.okA s i 0:=⟨hr.1,hi,by omega⟩
  have o1:l.okA s i 1:=⟨hr.1,hi,by omega⟩
  have n0:=(zar hl o0).1; have n1:=(zar hl o1).1
  have n01:l.arc s i 1≠l.arc s i 0:=fun he=>by have:=((za7 hl o1 o0).1 he).2.2; omega
  constructor
  ·unfold zju
   rw [hF.root hl n0 hk]
   dsimp only [Option.bind_some]
   rw [hF.root hl n1 hk]
   dsimp only [Option.bind_some]
   rw [decide_eq_false]
   intro he
   have hFF:=(hF.roots hl n0 n1).1 he
   have s0:=hT.single s 0 o0 (hno i hi.1)
   have m1:=hF.mem _ n1
   rw [←hFF,s0] at m1
   exact n01 (List.mem_singleton.1 m1)
  ·have ou:l.okV i (g.u s):=⟨hi,by omega⟩
   have ov:l.okV i (g.v s):=⟨hi,by omega⟩
   obtain ⟨b,e,hb⟩:=hF.same hl ou ov hk
   rw [e]
   have:b=false:=Bool.eq_false_iff.2 fun hbt=>hcn i hi.1 ((hT.row_iff hl hi ou ov).1 (hb.1 hbt))
   rw [this]
 ·have h2:=h1.lift hl hh (fun hB=>by have:=hB.2; rw [ht] at this; cases this) (i:=0) (by omega)
  have el:(g.lift s 0).lv s=0:=by unfold G.lift updI; simp
  obtain ⟨σ2,F2,mk2,e2,h3⟩:=h2.plant hl hp (s:=s) hh (fun a ha ha'=>⟨hno a ha,hcn a ha⟩) hk
  have hg:(g.lift s 0).turn s true=g.lift s 0:=by
   unfold G.lift G.turn updB
   simp only [G.mk.injEq,true_and]
   funext q
   by_cases hq:q=s<;>simp [hq,ht]
  rw [hg,el] at h3
  refine ⟨σ2,e2,F2,mk2,L,h3.iff hl (fun i q hi=>?_) (fun i q hq=>hq.1) (fun q=>?_) (fun q i hq=>?_)⟩
  ·unfold Pg G.lift updI; dsimp only
   by_cases hq:q=s
   ·subst hq; rw [if_pos rfl]
    constructor
    ·rintro (⟨⟨a1,a2,a3⟩,a4⟩ | ⟨_,a5⟩)
     ·exact absurd ⟨rfl,hi.1,a3⟩ a4
     ·exact ⟨hh,ht,a5.2⟩
    ·rintro ⟨a1,a2,a3⟩; exact .inr ⟨rfl,hi.1,a3⟩
   ·rw [if_neg hq]
    exact ⟨fun a=>a.elim (fun a=>a.1) (fun a=>absurd a.1 hq),fun a=>.inl ⟨a,fun b=>hq b.1⟩⟩
  ·exact Iff.rfl
  ·have hi0:=hq.2.1
   unfold Kg G.lift updI; dsimp only
   by_cases hq:q=s
   ·subst hq; rw [if_pos rfl]
    by_cases h0:i=0
    ·subst h0; simp [hh,ht]
    ·rw [if_neg (fun c=>h0 c.2)]
     refine ⟨fun a=>?_,fun a=>absurd a.2.2.symm h0⟩
     split at a
     ·exact absurd a id
     next hc=>exact absurd ⟨rfl,hi0.1,by rw [a.2.2]; exact Int.le_refl _⟩ hc
   ·rw [if_neg (fun c=>hq c.1),if_neg (fun c=>hq c.1),if_neg hq]
omit hp
theorem Rel.back (h:Rel l pr σ d) {i:Nat} (hi:i<d.size) (ht:d[i]!.tr=true):∃ σ1 σ2,Go.Tm.fell l P1 561 σ d[i]!.slot=some σ1∧(∀ a,0≤a∧a<l.lev→zju l 561 σ1 a d[i]!.slot=some (false,σ1)∧Go.Tm.same l 561 σ1 a d[i]!.u d[i]!.v=some (false,σ1))∧Go.Tm.plant l P1 561 (zgR l σ1 d[i]!.slot 0) d[i]!.slot=some σ2∧Rel l pr σ2 (d.setIfInBounds i { d[i]! with lv:=0 }):=by
 obtain ⟨g,hR,hM⟩:=h
 obtain ⟨r1,r2,r3,r4,r5⟩:=hM.row i hi
 obtain ⟨σ1,e1,hq,σ2,e2,hR2⟩:=hR.fell_back hl (zgZ hl) r1 (r5.trans ht) (k:=561) (by decide)
 rw [r2,r3] at hq
 exact ⟨σ1,σ2,e1,hq,e2,_,hR2,hM.lift hl hi⟩
end
end Go.Tm
namespace Go.Tm
open MemLike Eng
set_option linter.unusedSectionVars false
set_option linter.unusedVariables false
theorem zjv {l:Lay} (hl:l.Ok) {i:Nat}:((i:Int)<l.lev→1≤l.V / 2 ^ i)∧(l.lev≤(i:Int)+1→l.V / 2 ^ i≤1):=by
 have hb1:=hl.1; have hb2:=hl.2.1
 have lb:=zb9 hl
 have key:∀ V:Nat,V≤16→1≤V→(∀ i:Nat,i<6→(((i:Int)<levI V→1≤V / 2 ^ i)∧(levI V≤(i:Int)+1→V / 2 ^ i≤1))):=by decide
 have h:=key l.V (by omega) (by omega)
 by_cases hi:i<6
 ·exact h i hi
 ·refine ⟨fun h=>by omega,fun _=>?_⟩
  have h1:l.V<2 ^ 6:=by have:(2:Nat) ^ 6=64:=rfl; omega
  have h2:(2:Nat) ^ 6≤2 ^ i:=Nat.pow_le_pow_right (by decide) (by omega)
  rw [Nat.div_eq_of_lt (by omega)]; omega
theorem Jn.down {g:G} {i j x y:Int} (h:Jn g i x y) (hj:j≤i):Jn g j x y:=h.mono fun q hq=>⟨hq.1,hq.2.1,by have:=hq.2.2; omega⟩
theorem Jn.trans {g:G} {i x y z:Int} (h:Jn g i x y) (h':Jn g i y z):Jn g i x z:=Conn.trans h h'
theorem Jn.congr {g g':G} {i x y:Int} (hP:∀ q,Pg g' i q↔Pg g i q) (he:∀ q,Pg g i q→g'.u q=g.u q∧g'.v q=g.v q):Jn g' i x y↔Jn g i x y :=
 ⟨fun c=>(c.mono fun q hq=>(hP q).1 hq).ends fun q hq=>he q hq,fun c=>(c.ends fun q hq=>⟨(he q hq).1.symm,(he q hq).2.symm⟩).mono fun q hq=>(hP q).2 hq⟩
section
open Classical
variable {l:Lay} {g g':G}
theorem zcd {i u:Int} (h:∀ w,Jn g' i u w↔Jn g i u w):nv l g' i u=nv l g i u:=by
 unfold nv; exact zb8 fun w _=>zfJ (h w)
theorem zpz {i u:Int}:nv l g i u≤l.V:=by
 unfold nv; have:=List.countP_le_length (p:=fun w:Nat=>decide (Jn g i u w)) (l:=List.range l.V); simpa using this
theorem zcC {α:Type} {p q:α→Bool}:∀ {r:List α},(∀ x∈r,p x=true→q x=true)→r.countP p≤r.countP q
 | [],_=>Nat.le_refl _
 | x :: r,h=>by
  have ih:=zcC (p:=p) (q:=q) (r:=r) fun y hy=>h y (by simp [hy])
  have h1:=h x (by simp)
  simp only [List.countP_cons]
  cases hp:p x<;>cases hq:q x<;>simp_all<;>omega
theorem zl9 {i u i' u':Int} (h:∀ w,Jn g i u w→Jn g' i' u' w):nv l g i u≤nv l g' i' u':=by
 unfold nv; exact zcC fun w _ hw=>decide_eq_true (h w (of_decide_eq_true hw))
theorem zoG {i u v:Int} (hu:0≤u∧u<l.V) (hv:0≤v∧v<l.V) (hne:u≠v) (h:Jn g i u v):2≤nv l g i u:=by
 have:=zcy (p:=fun w:Nat=>decide ((w:Int)=u)) (q:=fun w:Nat=>decide ((w:Int)=v)) (r:=fun w:Nat=>decide ((w:Int)=u) || decide ((w:Int)=v)) (l:=List.range l.V) (fun _ _=>rfl) (fun x _ hx=>decide_eq_false fun e=>hne (by have:=of_decide_eq_true hx; omega))
 have one:∀ u:Int,0≤u∧u<l.V→(List.range l.V).countP (fun w:Nat=>decide ((w:Int)=u))=1:=fun u hu=>by
  have:=zcx (p:=fun _:Nat=>false) (q:=fun w:Nat=>decide ((w:Int)=u)) (r:=List.range l.V) (s:=u.toNat) (fun x hx hne=>decide_eq_false fun c=>hne (by omega)) (List.mem_range.2 (by omega)) rfl (decide_eq_true (by omega)) List.nodup_range
  rw [this,zdF fun _ _=>rfl]
 rw [one u hu,one v hv] at this
 rw [show 2=1+1 from rfl,←this]
 unfold nv
 exact zcC fun w _ hw=>by
  rcases (Bool.or_eq_true_iff).1 hw with hw | hw
  ·rw [of_decide_eq_true hw]; exact decide_eq_true (Conn.refl _)
  ·rw [of_decide_eq_true hw]; exact decide_eq_true h
theorem zqD {i u v:Int} (hno:¬Jn g i u v) {x:Int} (h:∀ w,Jn g i u w∨Jn g i v w→Jn g' i x w):nv l g i u+nv l g i v≤nv l g' i x:=by
 have:=zcy (p:=fun w:Nat=>decide (Jn g i u w)) (q:=fun w:Nat=>decide (Jn g i v w)) (r:=fun w:Nat=>decide (Jn g i u w) || decide (Jn g i v w)) (l:=List.range l.V) (fun _ _=>rfl) (fun x _ hx=>decide_eq_false fun c=>hno ((of_decide_eq_true hx).trans c.symm))
 unfold nv
 rw [←this]
 exact zcC fun w _ hw=>by
  rcases (Bool.or_eq_true_iff).1 hw with hw | hw
  ·exact decide_eq_true (h w (.inl (of_decide_eq_true hw)))
  ·exact decide_eq_true (h w (.inr (of_decide_eq_true hw)))
theorem nv_or {i u v x:Int} (h:∀ w,Jn g' i x w→Jn g i u w∨Jn g i v w):nv l g' i x≤nv l g i u+nv l g i v:=by
 have key:∀ (r:List Nat),r.countP (fun w:Nat=>decide (Jn g' i x w))≤r.countP (fun w:Nat=>decide (Jn g i u w))+r.countP fun w:Nat=>decide (Jn g i v w):=fun r=>by
  induction r with
  | nil=>exact Nat.le_refl _
  | cons a r ih =>
   simp only [List.countP_cons]
   have:=h a
   by_cases h1:Jn g' i x a<;>by_cases h2:Jn g i u a<;>by_cases h3:Jn g i v a<;>simp_all<;>omega
 exact key _
end
structure Hdt (l:Lay) (g:G):Prop where
 sz:∀ i:Nat,(i:Int)<l.lev→∀ u:Int,0≤u∧u<l.V→nv l g i u≤l.V / 2 ^ i
 nt:∀ q,g.has q=true→g.tr q=false→Jn g (g.lv q) (g.u q) (g.v q)
theorem Hdt.strict {l:Lay} {g:G} (h:Hdt l g):zpe l g:=fun i hi=>⟨h.sz i hi,fun q h1 h2 h3=>(h.nt q h1 h2).down h3⟩
structure DelI (l:Lay) (g:G) (u v i:Int):Prop where
 sz:∀ j:Nat,(j:Int)<l.lev→∀ x:Int,0≤x∧x<l.V→nv l g j x≤l.V / 2 ^ j
 pr:∀ j:Nat,(j:Int)≤i→(j:Int)<l.lev→nv l g j u+nv l g j v≤l.V / 2 ^ j
 hi:∀ q,g.has q=true→g.tr q=false→i<g.lv q→Jn g (g.lv q) (g.u q) (g.v q)
 lo:∀ q,g.has q=true→g.tr q=false→g.lv q≤i→Jn g (g.lv q) (g.u q) (g.v q)∨(Jn g (g.lv q) (g.u q) u∧Jn g (g.lv q) (g.v q) v)∨(Jn g (g.lv q) (g.u q) v∧Jn g (g.lv q) (g.v q) u)
 no:¬Jn g 0 u v
section
variable {l:Lay} (hl:l.Ok) {p:Pen} (hp:PenOk p) {pr:Int→Int} {σ:M} {g g':G}
theorem Hdt.g0 (hl:l.Ok):Hdt l G0:=⟨fun i hi u hu=>by
 classical
 have:nv l G0 i u≤1:=by
  have h1:=zcx (p:=fun _:Nat=>false) (q:=fun w:Nat=>decide ((w:Int)=u)) (r:=List.range l.V) (s:=u.toNat) (fun x hx hne=>decide_eq_false fun c=>hne (by omega)) (List.mem_range.2 (by omega)) rfl (decide_eq_true (by omega)) List.nodup_range
  rw [zdF fun _ _=>rfl] at h1
  unfold nv
  refine Nat.le_trans (zcC fun w _ hw=>?_) (Nat.le_of_eq h1)
  refine decide_eq_true ?_
  have hj:Jn G0 i u w:=of_decide_eq_true hw
  have:∀ {x y:Int},Jn G0 i x y→x=y:=fun {x y} c=>by
   induction c with
   | refl=>rfl
   | step _ s hs=>cases hs.1
  exact (this hj).symm
 exact Nat.le_trans this ((zjv hl).1 hi),fun q hq=>by cases hq⟩
theorem Hdt.put_add (h:Hdt l g) {s a b:Int} (hno:g.has s=false) (hj:Jn g 0 a b):Hdt l (g.put s a b 0 false):=by
 have hs:∀ q,g.has q=true→q≠s:=fun q hq e=>by subst e; rw [hno] at hq; cases hq
 have hP:∀ i q,Pg (g.put s a b 0 false) i q↔Pg g i q:=fun i q=>by
  unfold Pg G.put updB updI; dsimp only
  by_cases e:q=s
  ·subst e; simp [hno]
  ·simp [e]
 have he:∀ i q,Pg g i q→(g.put s a b 0 false).u q=g.u q∧(g.put s a b 0 false).v q=g.v q:=fun i q hq=>by
  have:=hs q hq.1; unfold G.put updI; simp [this]
 have jn:∀ {i x y},Jn (g.put s a b 0 false) i x y↔Jn g i x y:=fun {i x y}=>Jn.congr (hP i) (he i)
 refine ⟨fun i hi u hu=>by rw [zcd fun w=>jn]; exact h.sz i hi u hu,fun q hq ht=>?_⟩
 rw [jn]
 by_cases e:q=s
 ·subst e; unfold G.put updI; simpa using hj
 ·have:g.has q=true:=by unfold G.put updB at hq; simpa [e] using hq
  have h2:=h.nt q this (by unfold G.put updB at ht; simpa [e] using ht)
  unfold G.put updI; simpa [e] using h2
theorem Hdt.put_plant (h:Hdt l g) {s a b:Int} (hno:g.has s=false):Hdt l (g.put s a b 0 true):=by
 have hs:∀ q,g.has q=true→q≠s:=fun q hq e=>by subst e; rw [hno] at hq; cases hq
 have he:∀ i q,Pg g i q→(g.put s a b 0 true).u q=g.u q∧(g.put s a b 0 true).v q=g.v q:=fun i q hq=>by
  have:=hs q hq.1; unfold G.put updI; simp [this]
 have up:∀ {i x y},Jn g i x y→Jn (g.put s a b 0 true) i x y:=fun {i x y} c=>(c.ends fun q hq=>⟨(he i q hq).1.symm,(he i q hq).2.symm⟩).mono fun q hq=>by
  have:=hs q hq.1
  unfold Pg at hq; unfold Pg G.put updB updI; simpa [this] using hq
 refine ⟨fun i hi u hu=>?_,fun q hq ht=>?_⟩
 ·by_cases hi0:i=0
  ·subst hi0; simpa using zpz (l:=l) (g:=g.put s a b 0 true) (i:=((0:Nat):Int)) (u:=u)
  ·have hP:∀ q,Pg (g.put s a b 0 true) i q↔Pg g i q:=fun q=>by
    unfold Pg G.put updB updI; dsimp only
    by_cases e:q=s
    ·subst e; simp [hno]; omega
    ·simp [e]
   rw [zcd fun w=>Jn.congr hP (he i)]; exact h.sz i hi u hu
 ·have e:q≠s:=fun e=>by subst e; unfold G.put updB at ht; simp at ht
  have:g.has q=true:=by unfold G.put updB at hq; simpa [e] using hq
  have h2:=up (h.nt q this (by unfold G.put updB at ht; simpa [e] using ht))
  unfold G.put updI at *; simpa [e] using h2
theorem Hdt.top (hl:l.Ok) (hE:∀ s,g.has s=true→(0≤g.u s∧g.u s<g.v s∧g.v s<l.V)∧0≤g.lv s) (h:Hdt l g) {q:Int} (hq:g.has q=true):g.lv q+1<l.lev∧2≤l.V / 2 ^ (g.lv q).toNat:=by
 obtain ⟨h1,h2⟩:=hE q hq
 have hj:Jn g (g.lv q) (g.u q) (g.v q):=by
  cases ht:g.tr q with
  | true=>exact .step (.refl _) q ⟨hq,ht,Int.le_refl _⟩ (.inl ⟨rfl,rfl⟩)
  | false=>exact h.nt q hq ht
 have e:(((g.lv q).toNat:Nat):Int)=g.lv q:=by omega
 have h3:=zoG (l:=l) (g:=g) (i:=g.lv q) ⟨h1.1,by omega⟩ ⟨by omega,h1.2.2⟩ (by omega) hj
 have hlt:g.lv q<l.lev:=by
  rcases Int.lt_or_le (g.lv q) l.lev with hc | hc
  ·exact hc
  ·exfalso
   have h5:∀ {x y},Jn g (g.lv q) x y→Jn g (l.lev - 1) x y:=fun c=>c.down (by omega)
   have lb:=zb9 hl
   have:=h.sz (l.lev - 1).toNat (by omega) (g.u q) ⟨h1.1,by omega⟩
   have h6:=zoG (l:=l) (g:=g) (i:=(((l.lev - 1).toNat:Nat):Int)) ⟨h1.1,by omega⟩ ⟨by omega,h1.2.2⟩ (by omega) (by rw [show (((l.lev - 1).toNat:Nat):Int)=l.lev - 1 by omega]; exact h5 hj)
   have h7:=(zjv hl (i:=(l.lev - 1).toNat)).2 (by omega)
   omega
 have h4:=h.sz (g.lv q).toNat (by omega) (g.u q) ⟨h1.1,by omega⟩
 rw [e] at h4
 refine ⟨?_,by omega⟩
 rcases Int.lt_or_le (g.lv q+1) l.lev with h | h
 ·exact h
 ·have:=(zjv hl (i:=(g.lv q).toNat)).2 (by omega); omega
theorem Hdt.del (h:Hdt l g) {s:Int} (hs:g.tr s=false):Hdt l (g.del s):=by
 have hP:∀ i q,Pg (g.del s) i q↔Pg g i q:=fun i q=>by
  unfold Pg G.del updB; dsimp only
  by_cases e:q=s
  ·subst e; simp [hs]
  ·simp [e]
 have jn:∀ {i x y},Jn (g.del s) i x y↔Jn g i x y:=fun {i x y}=>Jn.congr (hP i) fun q _=>⟨rfl,rfl⟩
 refine ⟨fun i hi u hu=>by rw [zcd fun w=>jn]; exact h.sz i hi u hu,fun q hq ht=>?_⟩
 rw [jn]
 have e:q≠s:=fun e=>by subst e; unfold G.del updB at hq; simp at hq
 exact h.nt q (by unfold G.del updB at hq; simpa [e] using hq) ht
theorem DelI.start (h:Hdt l g) {s:Int} (hh:g.has s=true) (ht:g.tr s=true) (hE:(0≤g.u s∧g.u s<l.V)∧0≤g.v s∧g.v s<l.V) (h0:0≤g.lv s) (hb:¬Conn (fun q=>Pg g 0 q∧q≠s) g.u g.v (g.u s) (g.v s)):DelI l (g.del s) (g.u s) (g.v s) (g.lv s):=by
 have hPe:∀ i q,Pg (g.del s) i q↔(Pg g i q∧q≠s):=fun i q=>by
  unfold Pg G.del updB; dsimp only
  by_cases e:q=s
  ·subst e; simp
  ·simp [e]
 have dn:∀ {i x y},Jn (g.del s) i x y→Jn g i x y:=fun {i x y} c=>Conn.mono c fun q hq=>((hPe i q).1 hq).1
 have hi:∀ {i x y},g.lv s<i→(Jn (g.del s) i x y↔Jn g i x y):=fun {i x y} hlt=>Jn.congr (g:=g) (g':=g.del s) (fun q=>(hPe i q).trans ⟨fun a=>a.1,fun a=>⟨a,fun e=>by subst e; have:=a.2.2; omega⟩⟩) fun q _=>⟨rfl,rfl⟩
 have lo:∀ {i x y},i≤g.lv s→(Jn g i x y↔Jn (g.del s) i x y∨(Jn (g.del s) i x (g.u s)∧Jn (g.del s) i (g.v s) y)∨(Jn (g.del s) i x (g.v s)∧Jn (g.del s) i (g.u s) y)):=fun {i x y} hle=>by
  refine Iff.trans ?_ (zfr (s:=s) (P:=Pg (g.del s) i) (eu:=g.u) (ev:=g.v))
  unfold Jn
  exact ⟨fun c=>c.mono fun q hq=>if e:q=s then .inl e else .inr ((hPe i q).2 ⟨hq,e⟩),fun c=>c.mono fun q hq=>hq.elim (fun e=>by subst e; exact ⟨hh,ht,hle⟩) fun a=>((hPe i q).1 a).1⟩
 have no:¬Jn (g.del s) 0 (g.u s) (g.v s):=fun c=>hb (Conn.mono c fun q hq=>(hPe 0 q).1 hq)
 have hq':∀ q,(g.del s).has q=true→q≠s∧g.has q=true:=fun q hq=>by
  have e:q≠s:=fun e=>by subst e; unfold G.del updB at hq; simp at hq
  exact ⟨e,by unfold G.del updB at hq; simpa [e] using hq⟩
 refine ⟨fun j hj x hx=>Nat.le_trans (zl9 fun w c=>dn c) (h.sz j hj x hx),fun j hj hj2=>?_,fun q hq hqt hlt=>?_,fun q hq hqt hle=>?_,no⟩
 ·refine Nat.le_trans (zqD (g':=g) (x:=g.u s) (fun c=>no (c.down (by omega))) fun w c=>?_) (h.sz j hj2 (g.u s) hE.1)
  rcases c with c | c
  ·exact dn c
  ·exact (lo hj).2 (.inr (.inl ⟨.refl _,c⟩))
 ·exact (hi hlt).2 (h.nt q (hq' q hq).2 hqt)
 ·rcases (lo hle).1 (h.nt q (hq' q hq).2 hqt) with c | ⟨c1,c2⟩ | ⟨c1,c2⟩
  ·exact .inl c
  ·exact .inr (.inl ⟨c1,c2.symm⟩)
  ·exact .inr (.inr ⟨c1,c2.symm⟩)
structure Ext (g g':G):Prop where
 has:g'.has=g.has
 u:g'.u=g.u
 v:g'.v=g.v
 lv:∀ q,g.lv q≤g'.lv q
theorem Ext.refl:Ext g g:=⟨rfl,rfl,rfl,fun _=>Int.le_refl _⟩
theorem Ext.trans {g'':G} (h:Ext g g') (h':Ext g' g''):Ext g g'':=⟨h'.has.trans h.has,h'.u.trans h.u,h'.v.trans h.v,fun q=>Int.le_trans (h.lv q) (h'.lv q)⟩
theorem Raised.ext {i:Int} {C:Int→Prop} (h:Raised g g' i C):Ext g g':=⟨h.has,h.u,h.v,fun q=>by
 by_cases c:C q
 ·have:=h.up q c; omega
 ·rw [h.st q c]; exact Int.le_refl _⟩
theorem Raised.up_jn {i:Int} {C:Int→Prop} (h:Raised g g' i C) {j x y:Int} (c:Jn g j x y):Jn g' j x y:=by
 unfold Jn; rw [h.u,h.v]
 exact Conn.mono c fun q hq=>⟨by rw [h.has]; exact hq.1,by rw [h.tr]; exact hq.2.1,Int.le_trans hq.2.2 (h.ext.lv q)⟩
include hl hp
theorem zaL.replant (h:zaL l pr σ g) {q:Int} (hh:g.has q=true) (ht:g.tr q=false) (hc:∀ a,0≤a→a≤g.lv q→¬Jn g a (g.u q) (g.v q)) {k:Nat} (hk:560<k):∃ σ1 σ2,Go.Tm.remove l k σ q=some σ1∧Go.Tm.plant l p k σ1 q=some σ2∧zaL l pr σ2 (g.turn q true):=by
 obtain ⟨F,mk,L,h⟩:=h
 obtain ⟨σ1,mk1,L1,e1,h1⟩:=h.remove hl ⟨hh,ht⟩ hk
 obtain ⟨σ2,F2,mk2,e2,h2⟩:=h1.plant hl hp hh (fun a ha ha'=>⟨fun hP=>(by have:=hP.2.1; rw [ht] at this; cases this),hc a ha ha'⟩) hk
 refine ⟨σ1,σ2,e1,e2,F2,mk2,L1,h2.iff hl (fun i s hi=>?_) (fun i s hs=>hs.1) (fun s=>?_) (fun s i hs=>?_)⟩
 ·unfold Pg G.turn updB; dsimp only
  by_cases e:s=q
  ·subst e; rw [if_pos rfl]
   exact ⟨fun a=>a.elim (fun a=>by have:=a.2.1; rw [ht] at this; cases this) fun a=>⟨hh,rfl,a.2.2⟩,fun a=>.inr ⟨rfl,hi.1,a.2.2⟩⟩
  ·rw [if_neg e]; exact ⟨fun a=>a.elim id fun a=>absurd a.1 e,.inl⟩
 ·unfold Bg G.turn updB; dsimp only
  by_cases e:s=q
  ·subst e; simp
  ·simp [e]
 ·unfold Kg G.turn updB; dsimp only
  by_cases e:s=q
  ·subst e
   rw [if_pos rfl]
   by_cases e2:i=g.lv s
   ·subst e2; simp [hh]
   ·rw [if_neg (fun c=>e2 c.2)]
    exact ⟨fun a=>(by have:=a.2.1; rw [ht] at this; cases this),fun a=>absurd a.2.2.symm e2⟩
  ·rw [if_neg (fun c=>e c.1),if_neg e]
theorem ziD (hR:zaL l pr σ g) {u v i:Int} (hD:DelI l g u v i) (hi:0≤i) (hi2:i+1<l.lev) (hu:0≤u∧u<l.V) (hv:0≤v∧v<l.V) {k:Nat} (hk:560<k) :
  ∃ r σ' g',replace l p k σ i u v=some (r,σ')∧zaL l pr σ' g'∧Ext g g'∧((r=(0,false)∧g'.tr=g.tr∧DelI l g' u v (i - 1))∨(r.2=true∧Hdt l g'∧Jn g' 0 u v∧g.has r.1=true∧g.tr r.1=false∧g'.tr=updB g.tr r.1 true)):=by
 have lb:=zb9 hl
 have ei:((i.toNat:Nat):Int)=i:=by omega
 have ou:l.okV i u:=⟨⟨hi,by omega⟩,hu⟩
 have ov:l.okV i v:=⟨⟨hi,by omega⟩,hv⟩
 obtain ⟨w,hw,hwuv,hwn⟩:∃ w,(if nv l g i v<nv l g i u then v else u)=w∧(w=u∨w=v)∧2 * nv l g i w≤nv l g i u+nv l g i v:=by
  split
  ·exact ⟨v,rfl,.inr rfl,by omega⟩
  ·exact ⟨u,rfl,.inl rfl,by omega⟩
 have ow:l.okV i w:=by rcases hwuv with rfl | rfl<;>assumption
 have e1:=hR.smaller hl ou ov hk
 rw [hw] at e1
 obtain ⟨σ1,g1,e2,hR1,hA1⟩:=hR.trees hl hp ow hi2 hk
 obtain ⟨r,σ2,g2,C,e3,hR2,hA2,hC,hFo⟩:=hR1.seek hl ow hi2 hk
 have jn1:∀ {j x y},j≤i→(Jn g1 j x y↔Jn g j x y):=fun hj=>hA1.jn hl hj
 have jn2:∀ {j x y},j≤i→(Jn g2 j x y↔Jn g j x y):=fun hj=>(hA2.jn hl hj).trans (jn1 hj)
 have E2:Ext g g2:=hA1.ext.trans hA2.ext
 have tr2:g2.tr=g.tr:=hA2.tr.trans hA1.tr
 have up1:∀ {x},Jn g i w x→Jn g1 (i+1) w x:=fun {x} c=>by
  unfold Jn at c
  induction c with
  | refl=>exact .refl _
  | @step y z hy s hs he ih =>
   have he':=he
   refine .step ih s ⟨by rw [hA1.has]; exact hs.1,by rw [hA1.tr]; exact hs.2.1,?_⟩ (by rw [hA1.u,hA1.v]; exact he)
   by_cases e:g.lv s=i
   ·have hy':Jn g i w (g.u s):=by
     rcases he with ⟨h1,_⟩ | ⟨_,h2⟩
     ·rw [h1]; exact hy
     ·rw [h2]; exact .step hy s hs he'
    rw [(hA1.up s ⟨hs.1,hs.2.1,e,hy'⟩).2.2]; exact Int.le_refl _
   ·rw [hA1.st s fun c=>e c.2.2.1]; have:=hs.2.2; omega
 have dn1:∀ {x y},Jn g1 (i+1) x y→Jn g (i+1) x y∨(Jn g i w x∧Jn g i w y):=fun {x y} c=>by
  unfold Jn at c
  induction c with
  | refl=>exact .inl (.refl _)
  | @step y z hy s hs he ih =>
   rw [hA1.u,hA1.v] at he
   have hs1:g.has s=true:=by rw [←hA1.has]; exact hs.1
   have hs2:g.tr s=true:=by rw [←hA1.tr]; exact hs.2.1
   by_cases cC:g.has s=true∧g.tr s=true∧g.lv s=i∧Jn g i w (g.u s)
   ·have hv':Jn g i w (g.v s):=.step cC.2.2.2 s ⟨hs1,hs2,by rw [cC.2.2.1]; exact Int.le_refl _⟩ (.inl ⟨rfl,rfl⟩)
    have hyz:Jn g i w y∧Jn g i w z:=by
     rcases he with ⟨h1,h2⟩ | ⟨h1,h2⟩
     ·rw [←h1,←h2]; exact ⟨cC.2.2.2,hv'⟩
     ·rw [←h1,←h2]; exact ⟨hv',cC.2.2.2⟩
    rcases ih with ih | ⟨ih1,_⟩
    ·exact .inr ⟨hyz.1.trans (Conn.symm (Jn.down ih (by omega))),hyz.2⟩
    ·exact .inr ⟨ih1,hyz.2⟩
   ·have hlv:=hs.2.2
    rw [hA1.st s cC] at hlv
    have st:Jn g (i+1) y z:=.step (.refl _) s ⟨hs1,hs2,hlv⟩ he
    rcases ih with ih | ⟨ih1,ih2⟩
    ·exact .inl (ih.trans st)
    ·exact .inr ⟨ih1,ih2.trans (st.down (by omega))⟩
 have hiA:∀ {j x y},i+1<j→(Jn g1 j x y↔Jn g j x y):=fun {j x y} hj=>by
  refine Jn.congr (g:=g) (g':=g1) (fun q=>?_) fun q _=>by rw [hA1.u,hA1.v]; exact ⟨rfl,rfl⟩
  unfold Pg; rw [hA1.has,hA1.tr]
  by_cases c:g.has q=true∧g.tr q=true∧g.lv q=i∧Jn g i w (g.u q)
  ·have:=hA1.up q c
   exact ⟨fun a=>by have:=a.2.2; omega,fun a=>by have:=a.2.2; omega⟩
  ·rw [hA1.st q c]
 have jn12:∀ {j x y},Jn g2 j x y↔Jn g1 j x y:=fun {j x y}=>by
  refine Jn.congr (g:=g1) (g':=g2) (fun q=>?_) fun q _=>by rw [hA2.u,hA2.v]; exact ⟨rfl,rfl⟩
  unfold Pg; rw [hA2.has,hA2.tr]
  by_cases c:C q
  ·have:=(hC q c).1
   exact ⟨fun a=>(by rw [this] at a; cases a.2.1),fun a=>(by rw [this] at a; cases a.2.1)⟩
  ·rw [hA2.st q c]
 have sz2:∀ j:Nat,(j:Int)<l.lev→∀ x:Int,0≤x∧x<l.V→nv l g2 j x≤l.V / 2 ^ j:=fun j hj x hx=>by
  rw [zcd fun w=>jn12]
  rcases Int.lt_or_le i j with h | h
  ·by_cases e:(j:Int)=i+1
   ·by_cases c:Jn g i w x
    ·have h1:nv l g1 j x≤nv l g i w:=zl9 fun y hy=>by
      rw [e] at hy
      rcases dn1 hy with h | ⟨_,h⟩
      ·exact c.trans (h.down (by omega))
      ·exact h
     have h2:=hD.pr i.toNat (by omega) (by omega)
     rw [ei] at h2
     have h3:l.V / 2 ^ j=l.V / 2 ^ i.toNat / 2:=by rw [show j=i.toNat+1 by omega,Nat.pow_succ,Nat.div_div_eq_div_mul]
     rw [h3]; omega
    ·rw [zcd fun y=>?_]
     ·exact hD.sz j hj x hx
     ·rw [e]; exact ⟨fun hy=>(dn1 hy).elim id fun a=>absurd a.1 c,fun hy=>hA1.up_jn hy⟩
   ·rw [zcd fun y=>hiA (by omega)]; exact hD.sz j hj x hx
  ·rw [zcd fun y=>jn1 h]; exact hD.sz j hj x hx
 have pr2:∀ j:Nat,(j:Int)≤i→(j:Int)<l.lev→nv l g2 j u+nv l g2 j v≤l.V / 2 ^ j:=fun j h1 h2=>by
  rw [zcd fun y=>jn2 h1,zcd fun y=>jn2 h1]; exact hD.pr j h1 h2
 have no2:¬Jn g2 0 u v:=fun c=>hD.no ((jn2 hi).1 c)
 have hi2':∀ q,g2.has q=true→g2.tr q=false→i<g2.lv q→Jn g2 (g2.lv q) (g2.u q) (g2.v q):=fun q hq ht hlt=>by
  rw [E2.has] at hq; rw [tr2] at ht; rw [E2.u,E2.v]
  have n1:¬(g.has q=true∧g.tr q=true∧g.lv q=i∧Jn g i w (g.u q)):=fun c=>by rw [ht] at c; cases c.2.1
  by_cases c:C q
  ·have h1:=(hA2.up q c).2.2
   obtain ⟨_,c2,c3⟩:=hC q c
   rw [hA1.u,jn1 (Int.le_refl _)] at c2; rw [hA1.v,jn1 (Int.le_refl _)] at c3
   rw [h1,jn12]
   exact (Conn.symm (up1 c2)).trans (up1 c3)
  ·have h1:g2.lv q=g.lv q:=(hA2.st q c).trans (hA1.st q n1)
   rw [h1] at hlt ⊢
   rw [jn12]; exact hA1.up_jn (hD.hi q hq ht hlt)
 have lo2:∀ q,g2.has q=true→g2.tr q=false→g2.lv q≤i→Jn g2 (g2.lv q) (g2.u q) (g2.v q)∨(Jn g2 (g2.lv q) (g2.u q) u∧Jn g2 (g2.lv q) (g2.v q) v)∨(Jn g2 (g2.lv q) (g2.u q) v∧Jn g2 (g2.lv q) (g2.v q) u):=fun q hq ht hle=>by
  rw [E2.has] at hq; rw [tr2] at ht; rw [E2.u,E2.v]
  have n1:¬(g.has q=true∧g.tr q=true∧g.lv q=i∧Jn g i w (g.u q)):=fun c=>by rw [ht] at c; cases c.2.1
  have n2:¬C q:=fun c=>by have:=(hA2.up q c).2.2; omega
  have h1:g2.lv q=g.lv q:=(hA2.st q n2).trans (hA1.st q n1)
  rw [h1] at hle ⊢
  simp only [jn2 hle]
  exact hD.lo q hq ht hle
 have wr:IntKind.i64.wrap (i+1)=i+1:=zbq (by omega)
 unfold replace
 rw [wr,if_neg (by omega),e1]
 dsimp only [Option.bind_some]
 rw [e2]
 dsimp only [Option.bind_some]
 rw [e3]
 dsimp only [Option.bind_some]
 rcases hFo with ⟨hr,hno⟩ | ⟨hr,hq,ht,hlv,hnj,hone⟩
 ·rw [hr]
  refine ⟨_,σ2,g2,rfl,hR2,E2,.inl ⟨rfl,tr2,sz2,fun j h1 h2=>pr2 j (by omega) h2,fun q hq ht hlt=>?_,fun q hq ht hle=>lo2 q hq ht (by omega),no2⟩⟩
  rcases Int.lt_or_le i (g2.lv q) with h | h
  ·exact hi2' q hq ht h
  ·have e:g2.lv q=i:=by omega
   obtain ⟨n1,n2⟩:=hno q hq ht e
   rcases lo2 q hq ht h with c | ⟨c1,c2⟩ | ⟨c1,c2⟩
   ·exact c
   ·rw [e] at c1 c2
    rcases hwuv with rfl | rfl
    ·exact absurd (Conn.symm c1) n1
    ·exact absurd (Conn.symm c2) n2
   ·rw [e] at c1 c2
    rcases hwuv with rfl | rfl
    ·exact absurd (Conn.symm c2) n2
    ·exact absurd (Conn.symm c1) n1
 ·rw [hr,if_pos rfl]
  have hcr:(Jn g2 i (g2.u r.1) u∧Jn g2 i (g2.v r.1) v)∨(Jn g2 i (g2.u r.1) v∧Jn g2 i (g2.v r.1) u):=by
   rcases lo2 r.1 hq ht (by omega) with c | c | c
   ·rw [hlv] at c; exact absurd c hnj
   ·rw [hlv] at c; exact .inl c
   ·rw [hlv] at c; exact .inr c
  obtain ⟨σ3,σ4,e4,e5,hR4⟩:=hR2.replant hl hp hq ht (fun a ha ha' c=>no2 (by
   rw [hlv] at ha'
   rcases hcr with ⟨c1,c2⟩ | ⟨c1,c2⟩
   ·exact Jn.down (g:=g2) (i:=a) ((Conn.symm (c1.down ha')).trans (c.trans (c2.down ha'))) ha
   ·exact Jn.down (g:=g2) (i:=a) ((Conn.symm (c2.down ha')).trans ((Conn.symm c).trans (c1.down ha'))) ha)) hk
  rw [e4]
  dsimp only [Option.bind_some]
  rw [e5]
  dsimp only [Option.bind_some]
  have hP:∀ j q,Pg (g2.turn r.1 true) j q↔(q=r.1∧j≤i)∨Pg g2 j q:=fun j q=>by
   unfold Pg G.turn updB; dsimp only
   by_cases e:q=r.1
   ·rw [e,if_pos rfl,ht,hlv,hq]; simp
   ·rw [if_neg e]; exact ⟨.inr,fun a=>a.elim (fun a=>absurd a.1 e) id⟩
  have up3:∀ {j x y},Jn g2 j x y→Jn (g2.turn r.1 true) j x y:=fun {j x y} c=>Conn.mono c fun q hq=>(hP j q).2 (.inr hq)
  have hi3:∀ {j x y},i<j→(Jn (g2.turn r.1 true) j x y↔Jn g2 j x y):=fun {j x y} hj=>Jn.congr (g:=g2) (g':=g2.turn r.1 true) (fun q=>(hP j q).trans ⟨fun a=>a.elim (fun a=>by have:=a.2; omega) id,.inr⟩) fun q _=>⟨rfl,rfl⟩
  have lo3:∀ {j x y},j≤i→(Jn (g2.turn r.1 true) j x y↔Jn g2 j x y∨(Jn g2 j x (g2.u r.1)∧Jn g2 j (g2.v r.1) y)∨(Jn g2 j x (g2.v r.1)∧Jn g2 j (g2.u r.1) y)):=fun {j x y} hj=>by
   refine Iff.trans ?_ (zfr (s:=r.1) (P:=Pg g2 j) (eu:=g2.u) (ev:=g2.v))
   unfold Jn
   exact ⟨fun c=>c.mono fun q hq=>((hP j q).1 hq).imp (fun a=>a.1) id,fun c=>c.mono fun q hq=>(hP j q).2 (hq.imp (fun a=>⟨a,hj⟩) id)⟩
  have uv3:∀ {j},j≤i→Jn (g2.turn r.1 true) j u v:=fun {j} hj=>by
   refine (lo3 hj).2 ?_
   rcases hcr with ⟨c1,c2⟩ | ⟨c1,c2⟩
   ·exact .inr (.inl ⟨Conn.symm (c1.down hj),c2.down hj⟩)
   ·exact .inr (.inr ⟨Conn.symm (c2.down hj),c1.down hj⟩)
  refine ⟨_,σ4,g2.turn r.1 true,rfl,hR4,⟨E2.has,E2.u,E2.v,E2.lv⟩,.inr ⟨rfl,⟨fun j hj x hx=>?_,fun q hq' ht'=>?_⟩,uv3 hi,by rw [←E2.has]; exact hq,by rw [←tr2]; exact ht,by rw [←tr2]; rfl⟩⟩
  ·rcases Int.lt_or_le i j with h | h
   ·rw [zcd fun y=>hi3 h]; exact sz2 j hj x hx
   ·by_cases c:Jn g2 j x (g2.u r.1)∨Jn g2 j x (g2.v r.1)
    ·refine Nat.le_trans (nv_or (u:=u) (v:=v) fun y hy=>?_) (pr2 j h hj)
     have cu:Jn g2 j (g2.u r.1) y∨Jn g2 j (g2.v r.1) y:=by
      rcases (lo3 h).1 hy with h1 | h1 | h1
      ·exact c.imp (fun c=>(Conn.symm c).trans h1) fun c=>(Conn.symm c).trans h1
      ·exact .inr h1.2
      ·exact .inl h1.2
     rcases hcr with ⟨c1,c2⟩ | ⟨c1,c2⟩
     ·exact cu.imp (fun a=>(Conn.symm (c1.down h)).trans a) fun a=>(Conn.symm (c2.down h)).trans a
     ·exact cu.elim (fun a=>.inr ((Conn.symm (c1.down h)).trans a)) fun a=>.inl ((Conn.symm (c2.down h)).trans a)
    ·rw [zcd fun y=>(lo3 h).trans ⟨fun a=>a.elim id fun a=>a.elim (fun a=>absurd (.inl a.1) c) fun a=>absurd (.inr a.1) c,.inl⟩]; exact sz2 j hj x hx
  ·have e:q≠r.1:=fun e=>by subst e; unfold G.turn updB at ht'; simp at ht'
   have ht2:g2.tr q=false:=by unfold G.turn updB at ht'; simpa [e] using ht'
   show Jn (g2.turn r.1 true) (g2.lv q) (g2.u q) (g2.v q)
   rcases Int.lt_or_le i (g2.lv q) with h | h
   ·exact up3 (hi2' q hq' ht2 h)
   ·rcases lo2 q hq' ht2 h with c | ⟨c1,c2⟩ | ⟨c1,c2⟩
    ·exact up3 c
    ·exact (up3 c1).trans ((uv3 h).trans (Conn.symm (up3 c2)))
    ·exact (up3 c1).trans ((Conn.symm (uv3 h)).trans (Conn.symm (up3 c2)))
end
end Go.Tm
namespace Go.Tm
open MemLike Eng
set_option linter.unusedSectionVars false
set_option linter.unusedVariables false
section
variable {l:Lay} (hl:l.Ok) {p:Pen} (hp:PenOk p) {pr:Int→Int} {σ:M} {g g':G}
theorem DelI.end {u v:Int} (h:DelI l g u v (-1)) (hE:∀ s,g.has s=true→0≤g.lv s):Hdt l g:=⟨h.sz,fun q hq ht=>h.hi q hq ht (by have:=hE q hq; omega)⟩
structure Sought (l:Lay) (g g':G) (u v:Int) (r:Int×Bool):Prop where
 ext:Ext g g'
 hdt:Hdt l g'
 no:r.2=false→r.1=0∧g'.tr=g.tr∧¬Jn g' 0 u v
 yes:r.2=true→Jn g' 0 u v∧g.has r.1=true∧g.tr r.1=false∧g'.tr=updB g.tr r.1 true
include hl hp
theorem ze5 {u v:Int} (hu:0≤u∧u<l.V) (hv:0≤v∧v<l.V) {m:Nat} (hm:560<m):∀ (n k:Nat) {σ:M} {g:G} {i:Int} {b:Int×Bool},i=(n:Int) - 1→n<k→i+1<l.lev→zaL l pr σ g→DelI l g u v i→b=(0,false) →
  ∃ r σ' g',zcL l p u v k m σ i b=some (r,σ')∧zaL l pr σ' g'∧Sought l g g' u v r
 | 0,k+1,σ,g,i,b,hi,_,_,hR,hD,hb=>by
  rw [zcL,if_neg (by omega),hb]
  have:i=-1:=by omega
  subst this
  exact ⟨_,σ,g,rfl,hR,Ext.refl,hD.end fun s hs=>(hR.edges.rng s hs).2.2.1,fun _=>⟨rfl,rfl,hD.no⟩,fun h=>(by cases h)⟩
 | n+1,k+1,σ,g,i,b,hi,hk,hi2,hR,hD,hb=>by
  obtain ⟨r,σ1,g1,e,hR1,hE,hc⟩:=ziD hl hp hR hD (by omega) hi2 hu hv hm
  rw [zcL,if_pos (by omega),e]
  dsimp only [Option.bind_some]
  rcases hc with ⟨hr,ht,hD1⟩ | ⟨hr,hH,hj,h1,h2,h3⟩
  ·rw [hr,if_neg (by decide),zbq (by have:=zb9 hl; omega)]
   obtain ⟨r2,σ2,g2,e2,hR2,hS⟩:=ze5 hu hv hm n k (i:=i - 1) (by omega) (by omega) (by omega) hR1 hD1 (rfl:((0:Int),false)=(0,false))
   exact ⟨r2,σ2,g2,e2,hR2,hE.trans hS.ext,hS.hdt,fun h=>(by obtain ⟨a,b,c⟩:=hS.no h; exact ⟨a,b.trans ht,c⟩),fun h=>by obtain ⟨a,b,c,d⟩:=hS.yes h; exact ⟨a,by rw [←hE.has]; exact b,by rw [←ht]; exact c,by rw [d,ht]⟩⟩
  ·rw [hr,if_pos rfl]
   exact ⟨r,σ1,g1,rfl,hR1,hE,hH,fun h=>(by rw [hr] at h; cases h),fun _=>⟨hj,h1,h2,h3⟩⟩
theorem ziT (hR:zaL l pr σ g) (hH:Hdt l g) {s:Int} (hh:g.has s=true) {k:Nat} (hk:560<k):∃ b o σ' g',zcr l p k σ s=some ((g.tr s,b,o),σ')∧zaL l pr σ' g'∧Sought l (g.del s) g' (g.u s) (g.v s) (b,o) ∨
  ∃ σ',g.tr s=false∧zcr l p k σ s=some ((false,0,false),σ')∧zaL l pr σ' (g.del s)∧Hdt l (g.del s):=by
 have hr:=hR.rng hl hh
 have e:=hR.eget hl hh
 unfold zcr
 dsimp only
 rw [e]
 dsimp only
 cases ht:g.tr s with
 | false =>
  refine ⟨0,false,σ,g,.inr ?_⟩
  obtain ⟨σ1,e1,hR1⟩:=hR.remove_del hl hh ht hk
  rw [if_neg (by decide),show zfq l σ s=σ from rfl,e1]
  exact ⟨_,rfl,rfl,hR1,hH.del ht⟩
 | true =>
  obtain ⟨σ1,e1,hR1⟩:=hR.fell_del hl hp hh ht hk
  have htop:=(hH.top hl (fun q hq=>by have:=hR.rng hl hq; exact ⟨this.2.1,this.2.2.1⟩) hh).1
  have hb:¬Conn (fun q=>Pg g 0 q∧q≠s) g.u g.v (g.u s) (g.v s):=by
   obtain ⟨F,mk,L,hI⟩:=hR
   exact (hI.tours 0 (by have:=zb9 hl; omega)).bridge hl (by have:=zb9 hl; omega) hI.lm.forest ⟨hh,ht,hr.2.2.1⟩
  have hD:=DelI.start hH hh ht ⟨⟨hr.2.1.1,by omega⟩,by omega,hr.2.1.2.2⟩ hr.2.2.1 hb
  obtain ⟨r,σ2,g2,e2,hR2,hS⟩:=ze5 hl hp ⟨hr.2.1.1,by omega⟩ ⟨by omega,hr.2.1.2.2⟩ hk ((g.lv s).toNat+1) k (i:=g.lv s) (by omega) (by have:=zb9 hl; omega) htop hR1 hD (rfl:((0:Int),false)=(0,false))
  refine ⟨r.1,r.2,σ2,g2,.inl ?_⟩
  rw [if_pos rfl,show zfq l σ s=σ from rfl,e1]
  dsimp only [Option.bind_some]
  rw [e2]
  exact ⟨rfl,hR2,hS⟩
theorem ziS (hR:zaL l pr σ g) (hH:Hdt l g) {s a b:Int} (hsr:0≤s∧s<l.S) (ha:0≤a∧a<l.V) (hb:0≤b∧b<l.V) (hne:a≠b) (hno:g.has s=false) (hfree:∀ s,g.has s=true→¬(g.u s=min a b∧g.v s=max a b)) {k:Nat} (hk:560<k) :
  ∃ t σ',zcq l p k σ s a b=some (t,σ')∧(t=false↔Jn g 0 a b)∧zaL l pr σ' (g.put s (min a b) (max a b) 0 t)∧Hdt l (g.put s (min a b) (max a b) 0 t):=by
 have lb:=zb9 hl
 obtain ⟨j,e,hj⟩:=hR.same hl (i:=0) (u:=a) (v:=b) ⟨by omega,ha⟩ ⟨by omega,hb⟩ hk
 have hmm:Jn g 0 (min a b) (max a b)↔Jn g 0 a b:=by
  rcases Int.lt_or_le a b with h | h
  ·rw [Int.min_eq_left (by omega),Int.max_eq_right (by omega)]
  ·rw [Int.min_eq_right h,Int.max_eq_left h]; exact ⟨fun c=>c.symm,fun c=>c.symm⟩
 unfold zcq
 rw [e]
 dsimp only [Option.bind_some]
 cases j with
 | true =>
  obtain ⟨σ',e1,hR1⟩:=hR.put_add hl hp hsr (a:=a) (b:=b) (by omega) (by omega) (by omega) hno hfree hk
  rw [if_pos rfl,e1]
  exact ⟨false,σ',rfl,⟨fun _=>hj.1 rfl,fun _=>rfl⟩,hR1,hH.put_add hno (hmm.2 (hj.1 rfl))⟩
 | false =>
  have hnj:¬Jn g 0 a b:=fun c=>by have:=hj.2 c; cases this
  obtain ⟨σ',e1,hR1⟩:=hR.put_plant hl hp hsr (a:=a) (b:=b) (by omega) (by omega) (by omega) hno hfree (fun c=>hnj (hmm.1 c)) hk
  rw [if_neg (by decide),e1]
  exact ⟨true,σ',rfl,⟨fun h=>(by cases h),fun c=>absurd c hnj⟩,hR1,hH.put_plant hno⟩
end
end Go.Tm
namespace Go.Tm
open MemLike Eng
set_option linter.unusedSectionVars false
set_option linter.unusedVariables false
def fsN (P:Nat→Bool):Nat→Int
 | 0=>-1
 | n+1=>if 0≤fsN P n then fsN P n else if P n then n else -1
theorem zkq {P:Nat→Bool}:∀ {n:Nat},(∀ j,j<n→P j=false)→fsN P n=-1
 | 0,_=>rfl
 | n+1,h=>by rw [fsN,zkq fun j hj=>h j (by omega),if_neg (by decide),h n (by omega)]; rfl
theorem zmv {P:Nat→Bool} {i:Nat}:∀ {n:Nat},i<n→P i=true→(∀ j,j<i→P j=false)→fsN P n=i
 | n+1,hi,he,hn=>by
  rw [fsN]
  by_cases h:i=n
  ·subst h; rw [zkq hn,if_neg (by decide),he]; rfl
  ·rw [zmv (n:=n) (by omega) he hn,if_pos (by omega)]
theorem zfh {P:Nat→Bool} {n:Nat}:(fsN P n=-1∧∀ j,j<n→P j=false)∨∃ i:Nat,i<n∧fsN P n=(i:Int)∧P i=true∧∀ j,j<i→P j=false:=by
 induction n with
 | zero=>exact .inl ⟨rfl,fun j hj=>absurd hj (Nat.not_lt_zero j)⟩
 | succ n ih =>
  rcases ih with ⟨h1,h2⟩ | ⟨i,h1,h2,h3,h4⟩
  ·cases hp:P n with
   | true=>exact .inr ⟨n,by omega,by rw [fsN,h1,if_neg (by decide),hp]; rfl,hp,h2⟩
   | false=>exact .inl ⟨by rw [fsN,h1,if_neg (by decide),hp]; rfl,fun j hj=>if e:j=n then e▸hp else h2 j (by omega)⟩
  ·exact .inr ⟨i,by omega,by rw [fsN,h2,if_pos (by omega)],h3,h4⟩
structure Dc (g:G) (d:Array EdR):Prop where
 row:∀ i,i<d.size→g.has d[i]!.slot=true∧g.u d[i]!.slot=d[i]!.u∧g.v d[i]!.slot=d[i]!.v∧d[i]!.lv=0∧d[i]!.tr=false
 cov:∀ s,g.has s=true→∃ i,i<d.size∧d[i]!.slot=s
 inj:∀ i j,i<d.size→j<d.size→d[i]!.slot=d[j]!.slot→i=j
theorem Dc.nil:Dc G0 #[]:=⟨fun i hi=>absurd hi (Nat.not_lt_zero i),fun s (hs:false=true)=>(by cases hs),fun i j hi=>absurd hi (Nat.not_lt_zero i)⟩
theorem Dc.ext {g g':G} {d:Array EdR} (h:Dc g d) (hh:g'.has=g.has) (hu:g'.u=g.u) (hv:g'.v=g.v):Dc g' d:=⟨fun i hi=>by rw [hh,hu,hv]; exact h.row i hi,fun s hs=>h.cov s (by rw [←hh]; exact hs),h.inj⟩
theorem Dc.put {g:G} {d:Array EdR} (h:Dc g d) {s u v:Int} {t:Bool} (hno:g.has s=false):Dc (g.put s u v 0 t) (d++#[⟨s,u,v,0,false⟩]):=by
 have g1:∀ j,j<d.size→(d++#[(⟨s,u,v,0,false⟩:EdR)])[j]! =d[j]!:=fun j hj=>get!_app hj
 have g2:(d++#[(⟨s,u,v,0,false⟩:EdR)])[d.size]! =⟨s,u,v,0,false⟩:=by simp
 have hs:∀ j,j<d.size→d[j]!.slot≠s:=fun j hj e=>by have:=(h.row j hj).1; rw [e,hno] at this; cases this
 refine ⟨fun i hi=>?_,fun q hq=>?_,fun i j hi hj e=>?_⟩
 ·by_cases hi':i<d.size
  ·rw [g1 i hi']
   have:=hs i hi'
   unfold G.put updB updI; simpa [this] using h.row i hi'
  ·obtain rfl:i=d.size:=by simp at hi; omega
   rw [g2]; unfold G.put updB updI; simp
 ·by_cases e:q=s
  ·exact ⟨d.size,by simp,by rw [g2]; exact e.symm⟩
  ·obtain ⟨i,hi,he⟩:=h.cov q (by unfold G.put updB at hq; simpa [e] using hq)
   exact ⟨i,by simp; omega,by rw [g1 i hi]; exact he⟩
 ·simp at hi hj
  by_cases hi':i<d.size<;>by_cases hj':j<d.size
  ·rw [g1 i hi',g1 j hj'] at e; exact h.inj i j hi' hj' e
  ·obtain rfl:j=d.size:=by omega
   rw [g1 i hi',g2] at e; exact absurd e (hs i hi')
  ·obtain rfl:i=d.size:=by omega
   rw [g1 j hj',g2] at e; exact absurd e.symm (hs j hj')
  ·omega
theorem Dc.del {l:Lay} (hl:l.Ok) {g:G} {d:Array EdR} (h:Dc g d) {i:Nat} (hi:i<d.size):Dc (g.del d[i]!.slot) (cutA d i):=by
 have hz:=zd3 hl hi
 have hg:∀ j,j<d.size - 1→(cutA d i)[j]! =if j<i then d[j]! else d[j+1]!:=fun j hj=>zeo hl hi hj
 have hne:∀ j,j<d.size→j≠i→d[j]!.slot≠d[i]!.slot:=fun j hj hji e=>hji (h.inj j i hj hi e)
 have row:∀ j,j<d.size→j≠i→(g.del d[i]!.slot).has d[j]!.slot=true∧(g.del d[i]!.slot).u d[j]!.slot=d[j]!.u∧(g.del d[i]!.slot).v d[j]!.slot=d[j]!.v∧d[j]!.lv=0∧d[j]!.tr=false:=fun j hj hji=>by
  have:=hne j hj hji
  unfold G.del updB; simpa [this] using h.row j hj
 refine ⟨fun j hj=>?_,fun q hq=>?_,fun a b ha hb e=>?_⟩
 ·rw [hz] at hj; rw [hg j hj]
  split
  ·exact row j (by omega) (by omega)
  ·exact row (j+1) (by omega) (by omega)
 ·have e:q≠d[i]!.slot:=fun e=>by subst e; unfold G.del updB at hq; simp at hq
  obtain ⟨j,hj,he⟩:=h.cov q (by unfold G.del updB at hq; simpa [e] using hq)
  have hji:j≠i:=fun h=>e (by rw [←he,h])
  rcases Nat.lt_or_ge j i with hlt | hge
  ·exact ⟨j,by omega,by rw [hg j (by omega),if_pos hlt]; exact he⟩
  ·exact ⟨j - 1,by omega,by rw [hg _ (by omega),if_neg (by omega),show j - 1+1=j by omega]; exact he⟩
 ·rw [hz] at ha hb
  rw [hg a ha,hg b hb] at e
  split at e<;>split at e
  ·exact h.inj a b (by omega) (by omega) e
  ·have:=h.inj a (b+1) (by omega) (by omega) e; omega
  ·have:=h.inj (a+1) b (by omega) (by omega) e; omega
  ·have:=h.inj (a+1) (b+1) (by omega) (by omega) e; omega
end Go.Tm
namespace Go.Tm
open MemLike Eng
set_option linter.unusedSectionVars false
set_option linter.unusedVariables false
def prN (f:Nat→EdR):Nat→Array (Int×Int)
 | 0=>#[]
 | n+1=>prN f n++#[((f n).u,(f n).v)]
theorem zeb {f:Nat→EdR}:∀ {n:Nat},(prN f n).size=n
 | 0=>rfl
 | n+1=>by rw [prN]; have:=zeb (f:=f) (n:=n); simp [this]
theorem zhH {f:Nat→EdR}:∀ {n k:Nat},k<n→(prN f n)[k]! =((f k).u,(f k).v)
 | n+1,k,h=>by
  rw [prN]
  by_cases hk:k<n
  ·rw [get!_app (by rw [zeb]; exact hk)]; exact zhH hk
  ·obtain rfl:k=n:=by omega
   have:=get!_app2 (a:=prN f k) (b:=#[((f k).u,(f k).v)]) (j:=0) (by simp)
   rw [zeb] at this
   rw [Nat.add_zero] at this; rw [this]; rfl
noncomputable def jdB (d:Array EdR) (u v:Int):Bool:=zcY (fun k=>(prN (fun i=>d[i]!) d.size)[k]!) (prN (fun i=>d[i]!) d.size).size u v
def noS (d:Array EdR) (s:Nat):Bool:=decide (∀ j,j<d.size→d[j]!.slot≠(s:Int))
def bwB (d:Array EdR) (u v:Int) (i:Nat):Bool:=decide (d[i]!.u=min u v∧d[i]!.v=max u v)
def fdE (f:Nat→EdR) (s:Int):Nat→EdR
 | 0=>⟨0,0,0,0,false⟩
 | n+1=>if ∃ j,j<n∧(f j).slot=s then fdE f s n else if (f n).slot=s then f n else ⟨0,0,0,0,false⟩
theorem zqQ {f:Nat→EdR} {s:Int}:∀ {n:Nat},(∀ j,j<n→(f j).slot≠s)→fdE f s n=⟨0,0,0,0,false⟩
 | 0,_=>rfl
 | n+1,h=>by rw [fdE,if_neg (fun ⟨j,hj,he⟩=>h j (by omega) he),if_neg (h n (by omega))]
theorem zoN {f:Nat→EdR} {s:Int} {i:Nat}:∀ {n:Nat},i<n→(f i).slot=s→(∀ j,j<i→(f j).slot≠s)→fdE f s n=f i
 | n+1,hi,he,hn=>by
  rw [fdE]
  by_cases h:i=n
  ·subst h; rw [if_neg (fun ⟨j,hj,he⟩=>hn j hj he),if_pos he]
  ·rw [if_pos ⟨i,by omega,he⟩,zoN (n:=n) (by omega) he hn]
theorem zmz {f:Nat→EdR} {s:Int} {n:Nat}:(fdE f s n=⟨0,0,0,0,false⟩∧∀ j,j<n→(f j).slot≠s)∨∃ i,i<n∧fdE f s n=f i∧(f i).slot=s:=by
 induction n with
 | zero=>exact .inl ⟨rfl,fun j hj=>absurd hj (Nat.not_lt_zero j)⟩
 | succ n ih =>
  rcases ih with ⟨h1,h2⟩ | ⟨i,h1,h2,h3⟩
  ·by_cases he:(f n).slot=s
   ·exact .inr ⟨n,by omega,by rw [fdE,if_neg (fun ⟨j,hj,he⟩=>h2 j hj he),if_pos he],he⟩
   ·exact .inl ⟨by rw [fdE,if_neg (fun ⟨j,hj,he⟩=>h2 j hj he),if_neg he],fun j hj=>if e:j=n then e▸he else h2 j (by omega)⟩
  ·exact .inr ⟨i,by omega,by rw [fdE,if_pos ⟨i,h1,h3⟩,h2],h3⟩
theorem Mt.fdE {g:G} {E:Array EdR} (h:Mt g E) (s:Int):(g.has s=true→(fdE (fun i=>E[i]!) s E.size).slot=s∧(fdE (fun i=>E[i]!) s E.size).u=g.u s∧(fdE (fun i=>E[i]!) s E.size).v=g.v s∧(fdE (fun i=>E[i]!) s E.size).lv=g.lv s∧(fdE (fun i=>E[i]!) s E.size).tr=g.tr s)∧(g.has s=false→fdE (fun i=>E[i]!) s E.size=⟨0,0,0,0,false⟩):=by
 rcases zmz (f:=fun i=>E[i]!) (s:=s) (n:=E.size) with ⟨h1,h2⟩ | ⟨i,h1,h2,h3⟩
 ·refine ⟨fun hs=>?_,fun _=>h1⟩
  obtain ⟨i,hi,he⟩:=h.cov s hs
  exact absurd he (h2 i hi)
 ·obtain ⟨r1,r2,r3,r4,r5⟩:=h.row i h1
  have h3:E[i]!.slot=s:=h3
  rw [h3] at r1 r2 r3 r4 r5
  refine ⟨fun _=>by rw [h2]; exact ⟨h3,r2.symm,r3.symm,r4.symm,r5.symm⟩,fun hn=>by rw [hn] at r1; cases r1⟩
noncomputable def jnB (f:Nat→EdR) (n:Nat) (u v:Int):Bool:=zcY (fun k=>(prN f n)[k]!) (prN f n).size u v
theorem fr_t {d:Array EdR} {j:Nat} {s:Int} {b:Bool} (hb:b=true↔∀ k,k<j→d[k]!.slot≠s) (h:b=true):decide (d[j]!.slot≠s)=true↔∀ k,k<j+1→d[k]!.slot≠s:=by
 rw [decide_eq_true_iff]
 exact ⟨fun h2 k hk=>if e:k=j then e▸h2 else hb.1 h k (by omega),fun h2=>h2 j (by omega)⟩
theorem fr_f {d:Array EdR} {j:Nat} {s:Int} {b:Bool} (hb:b=true↔∀ k,k<j→d[k]!.slot≠s) (h:b=false):false=true↔∀ k,k<j+1→d[k]!.slot≠s:=by
 constructor
 ·intro h2; cases h2
 ·intro h2; rw [hb.2 fun k hk=>h2 k (by omega)] at h; cases h
structure R14 (l:Lay) (pr:Int→Int) (σ:M) (g:G) (d:Array EdR):Prop where
 rt:zaL l pr σ g
 hd:Hdt l g
 dc:Dc g d
section
variable {l:Lay} (hl:l.Ok) {pr:Int→Int} {σ σ':M} {g g':G} {d:Array EdR}
include hl
theorem R14.size (h:R14 l pr σ g d):d.size≤l.S:=by
 have:=zce l.S ((List.range d.size).map fun i=>d[i]!.slot+1) (by
  refine List.Pairwise.map _ (fun i j hij=>hij) (List.Pairwise.imp_of_mem (R:=fun i j=>i≠j) (fun {i j} hi hj hij he=>?_) List.nodup_range)
  exact hij (h.dc.inj i j (List.mem_range.1 hi) (List.mem_range.1 hj) (by omega))) (fun x hx=>by
  obtain ⟨i,hi,rfl⟩:=List.mem_map.1 hx
  have:=(h.rt.rng hl (h.dc.row i (List.mem_range.1 hi)).1).1
  omega)
 simpa using this
theorem R14.rng (h:R14 l pr σ g d) {i:Nat} (hi:i<d.size):(0≤d[i]!.slot∧d[i]!.slot<l.S)∧(0≤d[i]!.u∧d[i]!.u<d[i]!.v∧d[i]!.v<l.V):=by
 obtain ⟨h1,h2,h3,h4,h5⟩:=h.dc.row i hi
 have:=h.rt.rng hl h1
 rw [h2,h3] at this; exact ⟨this.1,this.2.1⟩
def Wh (g:G) (u v:Int):Prop:=Conn (fun q=>g.has q=true) g.u g.v u v
omit hl in
theorem Wh.jn (hH:Hdt l g) (hr:∀ q,g.has q=true→0≤g.lv q) {u v:Int}:Wh g u v↔Jn g 0 u v:=by
 constructor
 ·intro c
  induction c with
  | refl=>exact .refl _
  | @step w x _ q hq he ih =>
   have hj:Jn g 0 (g.u q) (g.v q):=by
    cases ht:g.tr q with
    | true=>exact .step (.refl _) q ⟨hq,ht,hr q hq⟩ (.inl ⟨rfl,rfl⟩)
    | false=>exact (hH.nt q hq ht).down (hr q hq)
   rcases he with ⟨e1,e2⟩ | ⟨e1,e2⟩
   ·rw [←e1] at ih; rw [←e2]; exact ih.trans hj
   ·rw [←e1] at ih; rw [←e2]; exact ih.trans hj.symm
 ·intro c
  exact c.mono fun q hq=>hq.1
theorem R14.wh (h:R14 l pr σ g d) {u v:Int}:Wh g u v↔Jn g 0 u v:=Wh.jn h.hd fun q hq=>(h.rt.rng hl hq).2.2.1
theorem R14.jd (h:R14 l pr σ g d) {u v:Int}:jdB d u v=true↔Wh g u v:=by
 unfold jdB zcY
 rw [@decide_eq_true_eq _ (Classical.propDecidable _),zeb]
 unfold CN Wh
 constructor
 ·intro c
  induction c with
  | refl=>exact .refl _
  | @step w x _ k hk he ih =>
   have hkn:k.toNat<d.size:=by omega
   dsimp only at he
   rw [zhH hkn] at he
   obtain ⟨r1,r2,r3,_⟩:=h.dc.row _ hkn
   exact .step ih _ r1 (by rw [r2,r3]; exact he)
 ·intro c
  induction c with
  | refl=>exact .refl _
  | @step w x _ q hq he ih =>
   obtain ⟨j,h1,rfl⟩:=h.dc.cov q hq
   obtain ⟨r1,r2,r3,_⟩:=h.dc.row j h1
   rw [r2,r3] at he
   have hr:=(h.rng hl h1).2
   refine .step ih (j:Int) ⟨by omega,by omega,?_⟩ ?_
   ·dsimp only; rw [Int.toNat_natCast,zhH h1]; exact hr.1
   ·dsimp only; rw [Int.toNat_natCast,zhH h1]; exact he
theorem R14.joined (h:R14 l pr σ g d) {u v:Int} (hu:0≤u∧u<l.V) (hv:0≤v∧v<l.V):Go.Tm.same l 561 σ 0 u v=some (jdB d u v,σ):=by
 have lb:=zb9 hl
 obtain ⟨b,e,hb⟩:=h.rt.same hl (i:=0) (u:=u) (v:=v) ⟨by omega,hu⟩ ⟨by omega,hv⟩ (k:=561) (by decide)
 rw [e]
 have:b=jdB d u v:=by
  rw [Bool.eq_iff_iff,hb,h.jd hl,h.wh hl]
 rw [this]
theorem R14.nil (hz:zaL l pr σ G0):R14 l pr σ G0 #[]:=⟨hz,Hdt.g0 hl,Dc.nil⟩
def LvUp (g g':G):Prop:=∀ q,g.has q=true→g'.has q=true→g.lv q≤g'.lv q
theorem R14.ins (h:R14 l pr σ g d) {s u v:Int} (hs:0≤s∧s<l.S) (hu:0≤u∧u<l.V) (hv:0≤v∧v<l.V) (hne:u≠v) (hno:∀ j,j<d.size→d[j]!.slot≠s) (hfr:∀ j,j<d.size→bwB d u v j=false) :
  ∃ σ' g',zcq l P1 561 σ s u v=some (!jdB d u v,σ')∧R14 l pr σ' g' (d++#[⟨s,min u v,max u v,0,false⟩])∧LvUp g g'∧g'=g.put s (min u v) (max u v) 0 (!jdB d u v):=by
 have hn:g.has s=false:=by
  cases hc:g.has s with
  | false=>rfl
  | true=>obtain ⟨j,h1,h2⟩:=h.dc.cov s hc; exact absurd h2 (hno j h1)
 have hf:∀ q,g.has q=true→¬(g.u q=min u v∧g.v q=max u v):=fun q hq hc=>by
  obtain ⟨j,h1,rfl⟩:=h.dc.cov q hq
  obtain ⟨r1,r2,r3,_⟩:=h.dc.row j h1
  have:=hfr j h1
  unfold bwB at this
  rw [decide_eq_false_iff_not] at this
  exact this ⟨r2.symm.trans hc.1,r3.symm.trans hc.2⟩
 obtain ⟨t,σ',e,ht,hR,hH⟩:=ziS hl (zgZ hl) h.rt h.hd hs hu hv hne hn hf (k:=561) (by decide)
 have et:t=!jdB d u v:=by
  have h1:=h.jd hl (u:=u) (v:=v)
  rw [h.wh hl,←ht] at h1
  cases t<;>cases hj:jdB d u v<;>simp_all
 rw [←et]
 refine ⟨σ',_,e,⟨hR,hH,h.dc.put hn⟩,fun q hq _=>?_,rfl⟩
 have:q≠s:=fun e=>by subst e; rw [hn] at hq; cases hq
 unfold G.put updI; simp [this]
theorem R14.del (h:R14 l pr σ g d) {i:Nat} (hi:i<d.size) :
  ∃ b o σ' g',zcr l P1 561 σ d[i]!.slot=some ((g.tr d[i]!.slot,b,o),σ')∧R14 l pr σ' g' (cutA d i)∧LvUp g g'∧o=(g.tr d[i]!.slot && jdB (cutA d i) d[i]!.u d[i]!.v)∧(o=false→b=0)∧(o=true→g.has b=true∧g.tr b=false∧g'.has b=true∧g'.tr b=true) ∧
   g'.has=updB g.has d[i]!.slot false∧g'.u=g.u∧g'.v=g.v:=by
 obtain ⟨r1,r2,r3,r4,r5⟩:=h.dc.row i hi
 have hlv:∀ {g2:G},Ext (g.del d[i]!.slot) g2→LvUp g g2:=fun {g2} hE q hq hq'=>hE.lv q
 obtain ⟨b,o,σ',g',h1 | ⟨σ2,h1,h2,h3,h4⟩⟩:=ziT hl (zgZ hl) h.rt h.hd r1 (k:=561) (by decide)
 ·obtain ⟨h1,h2,h3⟩:=h1
  have hR:R14 l pr σ' g' (cutA d i):=⟨h2,h3.hdt,(h.dc.del hl hi).ext h3.ext.has h3.ext.u h3.ext.v⟩
  have hj:=(hR.jd hl (u:=d[i]!.u) (v:=d[i]!.v)).trans (hR.wh hl)
  rw [r2,r3] at h3
  have key:o=true→g.has b=true∧g.tr b=false∧g'.has b=true∧g'.tr b=true:=fun ho=>by
   obtain ⟨_,a,c,e⟩:=h3.yes ho
   refine ⟨?_,c,by rw [h3.ext.has]; exact a,by rw [e]; unfold updB; simp⟩
   unfold G.del updB at a
   dsimp only at a
   split at a
   ·cases a
   ·exact a
  have hso:o=(g.tr d[i]!.slot && jdB (cutA d i) d[i]!.u d[i]!.v):=by
   cases ho:o with
   | true =>
    have hjj:=hj.2 (h3.yes ho).1
    rw [hjj]
    cases ht:g.tr d[i]!.slot with
    | true=>rfl
    | false =>
     exfalso
     unfold zcr at h1
     dsimp only at h1
     rw [h.rt.eget hl r1] at h1
     dsimp only at h1
     rw [ht,if_neg (by decide)] at h1
     cases hx:(remove l 561 (zfq l σ d[i]!.slot) d[i]!.slot) with
     | none=>rw [hx] at h1; cases h1
     | some z=>rw [hx] at h1; dsimp only [Option.bind_some] at h1; cases h1; cases ho
   | false =>
    have hjj:jdB (cutA d i) d[i]!.u d[i]!.v=false:=Bool.eq_false_iff.2 fun hc=>(h3.no ho).2.2 (hj.1 hc)
    rw [hjj,Bool.and_false]
  exact ⟨b,o,σ',g',h1,hR,hlv h3.ext,hso,fun ho=>(h3.no ho).1,key,h3.ext.has,h3.ext.u,h3.ext.v⟩
 ·refine ⟨0,false,σ2,g.del d[i]!.slot,by rw [h1]; exact h2,⟨h3,h4,h.dc.del hl hi⟩,hlv Ext.refl,by rw [h1]; rfl,fun _=>rfl,fun h=>(by cases h),rfl,rfl,rfl⟩
end
end Go.Tm
namespace Go.Tm
open MemLike Eng
set_option linter.unusedSectionVars false
set_option linter.unusedVariables false
structure Op3 where
 kind:Int
 u:Int
 v:Int
 deriving Inhabited,DecidableEq
def zqc (x:Op3):List Value:=[.int .i64 x.kind,.int .i64 x.u,.int .i64 x.v]
section
variable {l:Lay} (hl:l.Ok) {pr:Int→Int} {σ σ':M} {g g':G} {d:Array EdR}
include hl
theorem R14.born {dn:Nat} {fd:Nat→Int} (hfd:∀ i,i<dn→0≤fd i∧fd i<18446744073709551616) {N:Nat} (hN:(N:Int)=l.cells):R14 l (fun x=>if dn=0 then 0 else fd (x.toNat % dn)) (zet l dn fd l.nodes.toNat (Array.replicate N 0)) G0 #[]:=by
 have hb:=zaz hl
 have:=BI.born hl (zgZ hl) hfd hN l.nodes.toNat (by omega)
 rw [show ((l.nodes.toNat:Nat):Int)=l.nodes by omega] at this
 exact R14.nil hl (this.right hl)
omit hl in
theorem zn8 {u v:Int}:jdB d u v=jdB d v u:=by
 unfold jdB zcY
 rw [decide_eq_decide]
 exact ⟨fun c=>Conn.symm c,fun c=>Conn.symm c⟩
omit hl in
theorem zmp {u v:Int}:jdB d (min u v) (max u v)=jdB d u v:=by
 rcases Int.lt_or_le u v with h | h
 ·rw [Int.min_eq_left (by omega),Int.max_eq_right (by omega)]
 ·rw [Int.min_eq_right h,Int.max_eq_left h]; exact zn8
omit hl in
theorem zm8 {e:EdR}:cutA (d++#[e]) d.size=d:=by
 have h1:(d++#[e]).size - (d.size+1)=0:=by simp
 unfold cutA
 rw [h1]
 refine Array.ext (by simp [zaH]) fun i h2 h3=>?_
 have h4:i<(rngE (fun j=>(d++#[e])[j]!) d.size).size:=by rw [zaH]; exact h3
 rw [Array.getElem_append_left h4]
 have h5:=zcK (fun j=>(d++#[e])[j]!) h3
 rw [getElem!_pos _ i h4] at h5
 rw [h5,get!_app h3,getElem!_pos d i h3]
theorem R14.back (h:R14 l pr σ g d) {s u v:Int} (hs:0≤s∧s<l.S) (hu:0≤u∧u<l.V) (hv:0≤v∧v<l.V) (hne:u≠v) (hno:∀ j,j<d.size→d[j]!.slot≠s) (hfr:∀ j,j<d.size→bwB d u v j=false) :
  ∃ σ1 σ2 g2,zcq l P1 561 σ s u v=some (!jdB d u v,σ1)∧Go.Tm.same l 561 σ1 0 u v=some (true,σ1)∧zcr l P1 561 σ1 s=some ((!jdB d u v,0,false),σ2)∧R14 l pr σ2 g2 d:=by
 obtain ⟨σ1,g1,e1,h1,_,hg1⟩:=h.ins hl hs hu hv hne hno hfr
 have hsz:(d++#[(⟨s,min u v,max u v,0,false⟩:EdR)]).size=d.size+1:=by simp
 have hat:(d++#[(⟨s,min u v,max u v,0,false⟩:EdR)])[d.size]! =⟨s,min u v,max u v,0,false⟩:=by simp
 obtain ⟨b,o,σ2,g2,e2,h2,_,ho,hb,_,_⟩:=h1.del hl (i:=d.size) (by omega)
 rw [hat] at e2 ho
 rw [zm8] at h2 ho
 dsimp only at e2 ho
 have ht:g1.tr s=!jdB d u v:=by rw [hg1]; unfold G.put updB; simp
 rw [zmp,ht] at ho
 have ho2:o=false:=by rw [ho]; cases jdB d u v<;>rfl
 rw [ho2,hb ho2,ht] at e2
 refine ⟨σ1,σ2,g2,e1,?_,e2,h2⟩
 rw [h1.joined hl hu hv]
 have:jdB (d++#[⟨s,min u v,max u v,0,false⟩]) u v=true:=by
  rw [←zmp,h1.jd hl,hg1]
  refine Conn.step (.refl _) s (by unfold G.put updB; simp) (.inl ⟨?_,?_⟩)<;>· unfold G.put updI; simp
 rw [this]
open Classical in
noncomputable def zdN (l:Lay) (g:G):Nat:=(List.range l.V).countP fun x:Nat=>decide (∀ w:Nat,w<x→¬Jn g 0 (w:Int) (x:Int))
noncomputable def trN (g:G) (d:Array EdR):Nat→Nat
 | 0=>0
 | n+1=>trN g d n+(if g.tr d[n]!.slot=true then 1 else 0)
omit hl in
open Classical in
theorem zgT (h:∀ x y,Jn g' 0 x y↔Jn g 0 x y):zdN l g'=zdN l g:=by
 unfold zdN
 refine List.countP_congr fun x _=>?_
 simp only [decide_eq_true_eq,h]
omit hl in
theorem zlS {s a b:Int} (hno:g.has s=false) {x y:Int}:Jn (g.put s a b 0 true) 0 x y↔Jn g 0 x y∨(Jn g 0 x a∧Jn g 0 b y)∨(Jn g 0 x b∧Jn g 0 a y):=by
 have hs:∀ q,g.has q=true→q≠s:=fun q hq e=>by subst e; rw [hno] at hq; cases hq
 have e:∀ {x y},Conn (Pg g 0) (g.put s a b 0 true).u (g.put s a b 0 true).v x y↔Jn g 0 x y:=fun {x y}=>by
  have hq:∀ q,Pg g 0 q→(g.put s a b 0 true).u q=g.u q∧(g.put s a b 0 true).v q=g.v q:=fun q hq=>by
   have:=hs q hq.1; unfold G.put updI; simp [this]
  exact ⟨fun c=>c.ends hq,fun c=>c.ends fun q h=>⟨(hq q h).1.symm,(hq q h).2.symm⟩⟩
 have hP:∀ q,Pg (g.put s a b 0 true) 0 q↔q=s∨Pg g 0 q:=fun q=>by
  unfold Pg G.put updB updI; dsimp only
  by_cases e:q=s
  ·subst e; simp
  ·simp [e]
 unfold Jn at *
 rw [show Conn (Pg (g.put s a b 0 true) 0) (g.put s a b 0 true).u (g.put s a b 0 true).v x y↔Conn (fun q=>q=s∨Pg g 0 q) (g.put s a b 0 true).u (g.put s a b 0 true).v x y from ⟨fun c=>c.mono fun q=>(hP q).1,fun c=>c.mono fun q=>(hP q).2⟩,zfr,e,e,e,e,e]
 have h1:(g.put s a b 0 true).u s=a:=by unfold G.put updI; simp
 have h2:(g.put s a b 0 true).v s=b:=by unfold G.put updI; simp
 rw [h1,h2]
omit hl in
theorem zmo {p:Nat→Prop}:∀ n:Nat,p n→∃ r,p r∧∀ w,p w→r≤w:=fun n=>by
 induction n using Nat.strongRecOn with
 | ind n ih =>
  intro hn
  by_cases h:∃ m,m<n∧p m
  ·obtain ⟨m,h1,h2⟩:=h; exact ih m h1 h2
  ·exact ⟨n,hn,fun w hw=>Nat.le_of_not_lt fun hlt=>h ⟨w,hlt,hw⟩⟩
omit hl in
theorem zkl {a:Int} (ha:0≤a∧a<l.V):∃ r:Nat,r<l.V∧Jn g 0 a (r:Int)∧∀ w:Nat,Jn g 0 a (w:Int)→r≤w:=by
 obtain ⟨r,h1,h2⟩:=zmo (p:=fun r:Nat=>Jn g 0 a (r:Int)) a.toNat (by rw [Int.toNat_of_nonneg ha.1]; exact .refl _)
 have:=h2 a.toNat (by rw [Int.toNat_of_nonneg ha.1]; exact .refl _)
 exact ⟨r,by omega,h1,h2⟩
omit hl in
open Classical in
theorem zna {s a b:Int} (hno:g.has s=false) (ha:0≤a∧a<l.V) (hb:0≤b∧b<l.V) (hj:¬Jn g 0 a b):zdN l g=zdN l (g.put s a b 0 true)+1:=by
 obtain ⟨ra,hra,ja,ma⟩:=zkl (l:=l) (g:=g) ha
 obtain ⟨rb,hrb,jb,mb⟩:=zkl (l:=l) (g:=g) hb
 have hne:ra≠rb:=fun e=>hj (ja.trans (by rw [e]; exact jb.symm))
 unfold zdN
 refine zcx (s:=max ra rb) (fun x _ hx=>?_) (List.mem_range.2 (by omega)) (decide_eq_false fun h=>?_) (decide_eq_true fun w hw c=>?_) List.nodup_range
 ·rw [decide_eq_decide]
  refine ⟨fun h w hw c=>?_,fun h w hw c=>h w hw ((zlS hno).2 (.inl c))⟩
  rcases (zlS hno).1 c with c | ⟨c1,c2⟩ | ⟨c1,c2⟩
  ·exact h w hw c
  ·
   have hx1:rb≤x:=mb x c2
   have hx2:¬rb<x:=fun hlt=>h rb hlt (jb.symm.trans c2)
   have hw1:ra≤w:=ma w c1.symm
   omega
  ·have hx1:ra≤x:=ma x c2
   have hx2:¬ra<x:=fun hlt=>h ra hlt (ja.symm.trans c2)
   have hw1:rb≤w:=mb w c1.symm
   omega
 ·refine h (min ra rb) (by omega) ?_
  rw [zlS hno]
  rcases Nat.lt_or_ge ra rb with hlt | hge
  ·rw [Nat.min_eq_left (by omega),Nat.max_eq_right (by omega)]; exact .inr (.inl ⟨ja.symm,jb⟩)
  ·rw [Nat.min_eq_right hge,Nat.max_eq_left hge]; exact .inr (.inr ⟨jb.symm,ja⟩)
 ·rcases Nat.lt_or_ge ra rb with hlt | hge
  ·rw [Nat.max_eq_right (by omega)] at hw c
   have:=mb w (jb.trans c.symm); omega
  ·rw [Nat.max_eq_left hge] at hw c
   have:=ma w (ja.trans c.symm); omega
omit hl in
theorem ziy {d':Array EdR}:∀ {n:Nat},(∀ j,j<n→g'.tr d'[j]!.slot=g.tr d[j]!.slot)→trN g' d' n=trN g d n
 | 0,_=>rfl
 | n+1,h=>by rw [trN,trN,ziy fun j hj=>h j (by omega),h n (by omega)]
open Classical in
theorem R14.cnt0 (g:G) (hg:g=G0):trN g #[] (#[]:Array EdR).size+zdN l g=l.V:=by
 subst hg
 have:zdN l G0=l.V:=by
  unfold zdN
  refine (List.countP_eq_length.2 fun x _=>?_).trans List.length_range
  refine decide_eq_true fun w hw c=>?_
  have:∀ {x y:Int},Jn G0 0 x y→x=y:=fun {x y} c=>by
   induction c with
   | refl=>rfl
   | step _ s hs=>cases hs.1
  have:=this c; omega
 rw [this]; simp [trN]
theorem R14.cnt_put (h:R14 l pr σ g d) {s u v:Int} (hu:0≤u∧u<l.V) (hv:0≤v∧v<l.V) (hno:∀ j,j<d.size→d[j]!.slot≠s) (hc:trN g d d.size+zdN l g=l.V) (hg':g'=g.put s (min u v) (max u v) 0 (!jdB d u v)) :
  trN g' (d++#[⟨s,min u v,max u v,0,false⟩]) (d++#[(⟨s,min u v,max u v,0,false⟩:EdR)]).size+zdN l g'=l.V:=by
 have hn:g.has s=false:=by
  cases hc:g.has s with
  | false=>rfl
  | true=>obtain ⟨j,h1,h2⟩:=h.dc.cov s hc; exact absurd h2 (hno j h1)
 have hsz:(d++#[(⟨s,min u v,max u v,0,false⟩:EdR)]).size=d.size+1:=by simp
 have hat:(d++#[(⟨s,min u v,max u v,0,false⟩:EdR)])[d.size]! =⟨s,min u v,max u v,0,false⟩:=by simp
 rw [hsz,trN,hat]
 dsimp only
 have h1:trN g' (d++#[⟨s,min u v,max u v,0,false⟩]) d.size=trN g d d.size:=ziy fun j hj=>by
  rw [get!_app hj,hg']; unfold G.put updB; simp [hno j hj]
 have h2:g'.tr s=!jdB d u v:=by rw [hg']; unfold G.put updB; simp
 rw [h1,h2]
 have hj:=(h.jd hl (u:=min u v) (v:=max u v)).trans (h.wh hl)
 rw [zmp] at hj
 have hm1:0≤min u v∧min u v<l.V:=by omega
 have hm2:0≤max u v∧max u v<l.V:=by omega
 cases hb:jdB d u v with
 | true =>
  have:zdN l g'=zdN l g:=zgT fun x y=>by
   rw [hg',hb]
   refine Jn.congr (fun q=>?_) fun q hq=>?_
   ·unfold Pg G.put updB updI; dsimp only
    by_cases e:q=s
    ·subst e; simp [hn]
    ·simp [e]
   ·have:q≠s:=fun e=>by subst e; have:=hq.1; rw [hn] at this; cases this
    unfold G.put updI; simp [this]
  rw [this]; simpa using hc
 | false =>
  have:zdN l g=zdN l g'+1:=by
   rw [hg',hb]
   exact zna hn hm1 hm2 fun c=>by have:=hj.2 c; rw [hb] at this; cases this
  rw [if_pos (by rfl)]
  omega
end
end Go.Tm
namespace Go.Tm
open MemLike Eng
set_option linter.unusedSectionVars false
set_option linter.unusedVariables false
def Val3 (l:Lay) (o:Op3):Prop:=o.u≠o.v∧0≤o.u∧o.u<l.V∧0≤o.v∧o.v<l.V
def InsR (l:Lay) (o:Op3) (d:Array EdR) (g:G) (d2:Array EdR) (g2:G):Prop :=
 (d2=d∧g2=g∧(¬Val3 l o∨(∃ j,j<d.size∧bwB d o.u o.v j=true)∨d.size=l.S)) ∨
  (Val3 l o∧∃ s:Int,(∀ j,j<d.size→d[j]!.slot≠s)∧d2=d++#[⟨s,min o.u o.v,max o.u o.v,0,false⟩]∧g2=g.put s (min o.u o.v) (max o.u o.v) 0 (!jdB d o.u o.v))
theorem LvUp.refl {g:G}:LvUp g g:=fun _ _ _=>Int.le_refl _
section
variable {l:Lay} (hl:l.Ok) {pr:Int→Int} {σ σ':M} {g g':G} {d:Array EdR}
include hl
theorem Mt.size_le {E:Array EdR} (hM:Mt g E) (hE:EdgeOk l σ g):E.size≤l.S:=by
 have:=zce l.S ((List.range E.size).map fun i=>E[i]!.slot+1) (by
  refine List.Pairwise.map _ (fun i j hij=>hij) (List.Pairwise.imp_of_mem (R:=fun i j=>i≠j) (fun {i j} hi hj hij he=>?_) List.nodup_range)
  exact hij (hM.inj i j (List.mem_range.1 hi) (List.mem_range.1 hj) (by omega))) (fun x hx=>by
  obtain ⟨i,hi,rfl⟩:=List.mem_map.1 hx
  have:=(hE.rng _ (hM.row i (List.mem_range.1 hi)).1).1
  omega)
 simpa using this
theorem R14.full (h:R14 l pr σ g d) (hn:∀ s,s<l.S→noS d s=false):d.size=l.S:=by
 classical
 have hle:=h.size hl
 have hex:∀ s:Nat,s<l.S→∃ j,j<d.size∧d[j]!.slot=(s:Int):=fun s hs=>by
  have:=hn s hs
  unfold noS at this
  rw [decide_eq_false_iff_not] at this
  exact Classical.byContradiction fun hc=>this fun j hj he=>hc ⟨j,hj,he⟩
 let f:Nat→Nat:=fun s=>if hs:s<l.S then Classical.choose (hex s hs) else 0
 have hf:∀ s,s<l.S→f s<d.size∧d[f s]!.slot=(s:Int):=fun s hs=>by
  show (if hs:s<l.S then Classical.choose (hex s hs) else 0)<d.size∧d[(if hs:s<l.S then Classical.choose (hex s hs) else 0)]!.slot=(s:Int)
  rw [dif_pos hs]; exact Classical.choose_spec (hex s hs)
 have:=zce d.size ((List.range l.S).map fun s=>(f s:Int)+1) (by
  refine List.Pairwise.map _ (fun i j hij=>hij) (List.Pairwise.imp_of_mem (R:=fun i j=>i≠j) (fun {i j} hi hj hij he=>?_) List.nodup_range)
  have h1:=(hf i (List.mem_range.1 hi)).2; have h2:=(hf j (List.mem_range.1 hj)).2
  have:f i=f j:=by omega
  rw [this] at h1; omega) (fun x hx=>by
  obtain ⟨i,hi,rfl⟩:=List.mem_map.1 hx
  have:=(hf i (List.mem_range.1 hi)).1
  omega)
 simp at this
 omega
omit hl in
theorem R14.edges (h:R14 l pr σ g d):EdgeOk l σ g:=by obtain ⟨F,mk,L,hI⟩:=h.rt; exact hI.edges
theorem R14.is (h:R14 l pr σ g d) {E:Array EdR} (hM:Mt g E):E.size=d.size∧∀ j,j<E.size→∃ i:Nat,i<d.size∧fsN (bwB d E[j]!.u E[j]!.v) d.size=(i:Int)∧d[i]!.slot=E[j]!.slot:=by
 have hle:∀ (a b:Array EdR),(∀ i,i<a.size→∃ j,j<b.size∧b[j]!.slot=a[i]!.slot)→(∀ i j,i<a.size→j<a.size→a[i]!.slot=a[j]!.slot→i=j)→a.size≤b.size:=fun a b hex hinj=>by
  let f:Nat→Nat:=fun i=>if hi:i<a.size then Classical.choose (hex i hi) else 0
  have hf:∀ i,i<a.size→f i<b.size∧b[f i]!.slot=a[i]!.slot:=fun i hi=>by
   show (if hi:i<a.size then Classical.choose (hex i hi) else 0)<b.size∧b[(if hi:i<a.size then Classical.choose (hex i hi) else 0)]!.slot=a[i]!.slot
   rw [dif_pos hi]; exact Classical.choose_spec (hex i hi)
  have:=zce b.size ((List.range a.size).map fun i=>(f i:Int)+1) (by
   refine List.Pairwise.map _ (fun i j hij=>hij) (List.Pairwise.imp_of_mem (R:=fun i j=>i≠j) (fun {i j} hi hj hij he=>?_) List.nodup_range)
   have h1:=(hf i (List.mem_range.1 hi)).2; have h2:=(hf j (List.mem_range.1 hj)).2
   have:f i=f j:=by omega
   rw [this] at h1
   exact hij (hinj i j (List.mem_range.1 hi) (List.mem_range.1 hj) (h1.symm.trans h2))) (fun x hx=>by
   obtain ⟨i,hi,rfl⟩:=List.mem_map.1 hx
   have:=(hf i (List.mem_range.1 hi)).1
   omega)
  simpa using this
 have h1:=hle E d (fun i hi=>h.dc.cov _ (hM.row i hi).1) hM.inj
 have h2:=hle d E (fun i hi=>hM.cov _ (h.dc.row i hi).1) h.dc.inj
 refine ⟨by omega,fun j hj=>?_⟩
 obtain ⟨r1,r2,r3,r4,r5⟩:=hM.row j hj
 obtain ⟨i,hi,he⟩:=h.dc.cov _ r1
 obtain ⟨q1,q2,q3,_⟩:=h.dc.row i hi
 have hr:=(h.rng hl hi).2
 rw [he] at q2 q3
 have hu:d[i]!.u=E[j]!.u:=q2.symm.trans r2
 have hv:d[i]!.v=E[j]!.v:=q3.symm.trans r3
 have hb:bwB d E[j]!.u E[j]!.v i=true:=decide_eq_true ⟨by rw [Int.min_eq_left (by omega)]; exact hu,by rw [Int.max_eq_right (by omega)]; exact hv⟩
 rcases zfh (P:=bwB d E[j]!.u E[j]!.v) (n:=d.size) with ⟨_,hn⟩ | ⟨i',hi',e,hb',_⟩
 ·rw [hn i hi] at hb; cases hb
 ·refine ⟨i',hi',e,?_⟩
  have hc:=of_decide_eq_true hb'
  rw [Int.min_eq_left (by omega),Int.max_eq_right (by omega)] at hc
  obtain ⟨F,mk,L,hI⟩:=h.rt
  obtain ⟨p1,p2,p3,_⟩:=h.dc.row i' hi'
  have:=hI.edges.uniq _ _ p1 q1 (by rw [p2,he,q2,hc.1,hu]) (by rw [p3,he,q3,hc.2,hv])
  rw [this,he]
end
end Go.Tm
namespace Go.Tm
open MemLike Eng
set_option linter.unusedSectionVars false
set_option linter.unusedVariables false
def l14:Lay:=⟨3,3,1⟩
theorem zc8:l14.Ok:=by unfold Lay.Ok; decide
def s14:M:=zet l14 0 (fun _=>0) l14.nodes.toNat (Array.replicate l14.cells.toNat 0)
def aw14:Option (List Int) :=
 (zcq l14 P1 561 s14 0 0 1).bind fun a1=>(zcq l14 P1 561 a1.2 1 1 2).bind fun a2=>(zcq l14 P1 561 a2.2 2 0 2).bind fun a3 =>
  (zcr l14 P1 561 a3.2 0).bind fun a4=>(Go.Tm.same l14 561 a4.2 0 0 1).bind fun a5=>some [bit a1.1,bit a2.1,bit a3.1,bit a4.1.1,a4.1.2.1,bit a4.1.2.2,bit a5.1]
set_option maxRecDepth 100000 in
theorem zql:aw14=some [1,1,0,1,2,1,1]:=by decide +kernel
theorem znl {b:Bool} (h:bit b=1):b=true:=by cases b; simp [bit] at h; rfl
theorem bit_f {b:Bool} (h:bit b=0):b=false:=by cases b; rfl; simp [bit] at h
theorem zor:∃ (a1 a2 a3 a4 a5:M) (d:Array EdR) (g:G),zcq l14 P1 561 s14 0 0 1=some (true,a1)∧zcq l14 P1 561 a1 1 1 2=some (true,a2)∧zcq l14 P1 561 a2 2 0 2=some (false,a3)∧zcr l14 P1 561 a3 0=some ((true,2,true),a4) ∧
  Go.Tm.same l14 561 a4 0 0 1=some (true,a4)∧R14 l14 (fun _=>0) a4 g d:=by
 have h:=zql
 unfold aw14 at h
 obtain ⟨⟨b1,a1⟩,h1,h⟩:=Option.bind_eq_some_iff.1 h
 obtain ⟨⟨b2,a2⟩,h2,h⟩:=Option.bind_eq_some_iff.1 h
 obtain ⟨⟨b3,a3⟩,h3,h⟩:=Option.bind_eq_some_iff.1 h
 obtain ⟨⟨⟨b4,b6,b7⟩,a4⟩,h4,h⟩:=Option.bind_eq_some_iff.1 h
 obtain ⟨⟨b5,a5⟩,h5,h⟩:=Option.bind_eq_some_iff.1 h
 simp only [Option.some.injEq,List.cons.injEq,and_true] at h
 obtain ⟨c1,c2,c3,c4,c5,c6,c7⟩:=h
 obtain rfl:=znl c1
 obtain rfl:=znl c2
 obtain rfl:=bit_f c3
 obtain rfl:=znl c4
 obtain rfl:b6=2:=c5
 obtain rfl:=znl c6
 obtain rfl:=znl c7
 have r0:R14 l14 (fun _=>0) s14 G0 #[]:=R14.born (l:=l14) zc8 (dn:=0) (fd:=fun _=>0) (fun i hi=>absurd hi (Nat.not_lt_zero i)) (N:=l14.cells.toNat) (by decide)
 obtain ⟨σ1,g1,e1,r1,_⟩:=r0.ins zc8 (s:=0) (u:=0) (v:=1) (by decide) (by decide) (by decide) (by decide) (fun j hj=>absurd hj (Nat.not_lt_zero j)) (fun j hj=>absurd hj (Nat.not_lt_zero j))
 rw [h1] at e1
 obtain ⟨_,rfl⟩:=Prod.mk.inj (Option.some.inj e1)
 obtain ⟨σ2,g2,e2,r2,_⟩:=r1.ins zc8 (s:=1) (u:=1) (v:=2) (by decide) (by decide) (by decide) (by decide) (by decide) (by decide)
 rw [h2] at e2
 obtain ⟨_,rfl⟩:=Prod.mk.inj (Option.some.inj e2)
 obtain ⟨σ3,g3,e3,r3,_⟩:=r2.ins zc8 (s:=2) (u:=0) (v:=2) (by decide) (by decide) (by decide) (by decide) (by decide) (by decide)
 rw [h3] at e3
 obtain ⟨_,rfl⟩:=Prod.mk.inj (Option.some.inj e3)
 obtain ⟨b,o,σ4,g4,e4,r4,_⟩:=r3.del zc8 (i:=0) (by decide)
 have hs:((((#[]:Array EdR)++#[⟨0,min 0 1,max 0 1,0,false⟩])++#[⟨1,min 1 2,max 1 2,0,false⟩])++#[⟨2,min 0 2,max 0 2,0,false⟩])[0]!.slot=0:=by decide
 rw [hs,h4] at e4
 obtain ⟨_,rfl⟩:=Prod.mk.inj (Option.some.inj e4)
 have e5:=r4.joined zc8 (u:=0) (v:=1) (by decide) (by decide)
 rw [h5] at e5
 obtain ⟨hb,rfl⟩:=Prod.mk.inj (Option.some.inj e5)
 exact ⟨a1,a2,a3,a5,a5,_,g4,h1,h2,h3,h4,h5,r4⟩
end Go.Tm
namespace Go.Tm
open MemLike Eng
set_option linter.unusedSectionVars false
set_option linter.unusedVariables false
theorem zqy {t:Int} (h:0≤t) {n:Nat}:t.tmod (n:Int)=((t.toNat % n:Nat):Int):=by
 rw [Int.tmod_eq_emod_of_nonneg h]
 have:t=((t.toNat:Nat):Int):=by omega
 conv=>lhs; rw [this]
 exact (Int.natCast_emod t.toNat n).symm
theorem zqx {t n:Nat}:((t:Int)).tmod (n:Int)=((t % n:Nat):Int):=by rw [zqy (by omega)]; simp
theorem zqv {g:G} {d:Array EdR} {a:Nat} (h:g.tr d[a]!.slot=true):trN g d a+1=trN g d (a+1):=by rw [trN,if_pos h]
theorem zqw {g:G} {d:Array EdR} {a:Nat} (h:g.tr d[a]!.slot=false):trN g d a=trN g d (a+1):=by rw [trN,if_neg (by rw [h]; decide),Nat.add_zero]
theorem zlu {g:G} {d:Array EdR}:∀ {a:Nat},trN g d a≤a
 | 0=>Nat.le_refl _
 | a+1=>by rw [trN]; have:=zlu (g:=g) (d:=d) (a:=a); split<;>omega
def CntI (l:Lay) (g:G) (d:Array EdR):Prop:=trN g d d.size+zdN l g=l.V
structure SetI (l:Lay) (fo:Nat→Op3) (ix:Nat→Nat) (d:Array EdR) (i:Nat):Prop where
 of:∀ k,k<d.size→∃ j,j<i∧Val3 l (fo (ix j))∧bwB d (fo (ix j)).u (fo (ix j)).v k=true
 has:d.size<l.S→∀ j,j<i→Val3 l (fo (ix j))→∃ k,k<d.size∧bwB d (fo (ix j)).u (fo (ix j)).v k=true
theorem SetI.start {l:Lay} {fo:Nat→Op3} {ix:Nat→Nat}:SetI l fo ix #[] 0:=⟨fun k hk=>absurd hk (Nat.not_lt_zero k),fun _ j hj=>absurd hj (Nat.not_lt_zero j)⟩
theorem zng {d:Array EdR} {e:EdR} {u v:Int} {k:Nat} (hk:k<d.size):bwB (d++#[e]) u v k=bwB d u v k:=by unfold bwB; rw [get!_app hk]
section
variable {l:Lay} (hl:l.Ok) {pr:Int→Int} {σ σ':M} {g g' g2:G} {d d2:Array EdR} {fo:Nat→Op3} {ix:Nat→Nat} {i:Nat}
theorem SetI.step (h:SetI l fo ix d i) (hI:InsR l ⟨1,(fo (ix i)).u,(fo (ix i)).v⟩ d g d2 g2):SetI l fo ix d2 (i+1):=by
 have hval:Val3 l ⟨1,(fo (ix i)).u,(fo (ix i)).v⟩↔Val3 l (fo (ix i)):=Iff.rfl
 rcases hI with ⟨rfl,_,hc⟩ | ⟨hv,s,hno,rfl,_⟩
 ·refine ⟨fun k hk=>by obtain ⟨j,hj,h2⟩:=h.of k hk; exact ⟨j,by omega,h2⟩,fun hs j hj hv=>?_⟩
  by_cases e:j=i
  ·subst e
   rcases hc with hc | ⟨k,hk,hb⟩ | hc
   ·exact absurd hv hc
   ·exact ⟨k,hk,hb⟩
   ·omega
  ·exact h.has hs j (by omega) hv
 ·have hsz:(d++#[(⟨s,min (fo (ix i)).u (fo (ix i)).v,max (fo (ix i)).u (fo (ix i)).v,0,false⟩:EdR)]).size=d.size+1:=by simp
  have hat:bwB (d++#[(⟨s,min (fo (ix i)).u (fo (ix i)).v,max (fo (ix i)).u (fo (ix i)).v,0,false⟩:EdR)]) (fo (ix i)).u (fo (ix i)).v d.size=true:=decide_eq_true (by simp)
  refine ⟨fun k hk=>?_,fun hs j hj hvj=>?_⟩
  ·by_cases hk2:k<d.size
   ·obtain ⟨j,hj,h1,h2⟩:=h.of k hk2
    exact ⟨j,by omega,h1,by rw [zng hk2]; exact h2⟩
   ·obtain rfl:k=d.size:=by rw [hsz] at hk; omega
    exact ⟨i,by omega,hv,hat⟩
  ·by_cases e:j=i
   ·subst e; exact ⟨d.size,by rw [hsz]; omega,hat⟩
   ·obtain ⟨k,hk,hb⟩:=h.has (by rw [hsz] at hs; omega) j (by omega) hvj
    exact ⟨k,by rw [hsz]; omega,by rw [zng hk]; exact hb⟩
include hl
theorem CntI.step (h:CntI l g d) (hR:R14 l pr σ g d) {o:Op3} (hI:InsR l o d g d2 g2):CntI l g2 d2:=by
 rcases hI with ⟨rfl,rfl,_⟩ | ⟨hv,s,hno,rfl,hg⟩
 ·exact h
 ·exact hR.cnt_put hl ⟨hv.2.1,hv.2.2.1⟩ ⟨hv.2.2.2.1,hv.2.2.2.2⟩ hno h hg
theorem R14.sub (hR:R14 l pr σ g d) {pr':Int→Int} (hR':R14 l pr' σ' g' d2) (h:∀ k,k<d.size→∃ j,j<d2.size∧d2[j]!.u=d[k]!.u∧d2[j]!.v=d[k]!.v) {u v:Int} (c:Wh g u v):Wh g' u v:=by
 unfold Wh at c ⊢
 induction c with
 | refl=>exact .refl _
 | @step w x _ q hq he ih =>
  obtain ⟨k,hk,rfl⟩:=hR.dc.cov q hq
  obtain ⟨_,r2,r3,_⟩:=hR.dc.row k hk
  obtain ⟨j,hj,h1,h2⟩:=h k hk
  obtain ⟨p1,p2,p3,_⟩:=hR'.dc.row j hj
  rw [r2,r3] at he
  exact .step ih _ p1 (by rw [p2,p3,h1,h2]; exact he)
omit hl in
theorem SetI.sub {ix':Nat→Nat} {n:Nat} (h:SetI l fo ix d n) (h':SetI l fo ix' d2 n) (hs:d2.size<l.S) (hix:∀ j,j<n→∃ j',j'<n∧ix' j'=ix j):∀ k,k<d.size→∃ j,j<d2.size∧d2[j]!.u=d[k]!.u∧d2[j]!.v=d[k]!.v:=fun k hk=>by
 obtain ⟨j,hj,hv,hb⟩:=h.of k hk
 obtain ⟨j',hj',e⟩:=hix j hj
 obtain ⟨k',hk',hb'⟩:=h'.has hs j' hj' (by rw [e]; exact hv)
 rw [e] at hb'
 have h1:=of_decide_eq_true hb; have h2:=of_decide_eq_true hb'
 exact ⟨k',hk',by rw [h1.1,h2.1],by rw [h1.2,h2.2]⟩
theorem zk1 (hR : R14 l pr σ g d) (hR' : R14 l pr σ' g' d2) (hC : CntI l g d) (hC' : CntI l g' d2) {n t : Nat} (h : SetI l fo (fun j => j) d n) (h' : SetI l fo (fun j => (j + t % n) % n) d2 n) (hn : 0 < n) (hs : d.size = d2.size) (hne : d.size ≠ l.S) :
    (∀ u v, jdB d u v = jdB d2 u v) ∧ trN g d d.size = trN g' d2 d2.size := by
  have h1 := hR.size hl
  have ht := Nat.mod_lt t hn
  have hw : ∀ u v, Wh g u v ↔ Wh g' u v := fun u v =>
    ⟨fun c => hR.sub hl hR' (h.sub h' (by omega) fun j hj => ⟨(j + (n - t % n)) % n, Nat.mod_lt _ hn, by
      show ((j + (n - t % n)) % n + t % n) % n = j
      rw [Nat.mod_add_mod, show j + (n - t % n) + t % n = j + n by omega, Nat.add_mod_right, Nat.mod_eq_of_lt hj]⟩) c,
     fun c => hR'.sub hl hR (h'.sub h (by omega) fun j hj => ⟨(j + t % n) % n, Nat.mod_lt _ hn, rfl⟩) c⟩
  refine ⟨fun u v => ?_, ?_⟩
  · rw [Bool.eq_iff_iff, hR.jd hl, hR'.jd hl, hw]
  · have : zdN l g' = zdN l g := zgT fun x y => by rw [← hR.wh hl, ← hR'.wh hl, hw]
    unfold CntI at hC hC'
    rw [this] at hC'
    omega
end
end Go.Tm
